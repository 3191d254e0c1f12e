/-
  Layer 3: the law EdgeBack as a function. No conditions.
-/
import Derived.Test.YtcaljjnadbpacaaDoorEdL
namespace Go.Proofs.YtcaljjnadbpacaaDoor.Ed
open Go.Sy

def lp6 (a b : E6) : Lp := ⟨[false, false, true, true, true, true, false, true, false, false, false, false, false, true, false, false, false, false, false, false, false, false, false, false, false, false, false, false, false, false, false, false, false, false, false, false, false, false, false, false, false, false, false, false, false, false, false, false, false, false, false, false, false, false, false, false, false, false, false, false, false, false, false, false, false, false, false, false, false, false, false, false, false, false, false, false, false, false, false, false, false, false, false, false, false, false, false, false, false, false, false, false, false, false, false, false, false, false, false, false, false, false, false, false, false, false, false, false, false, false, false, false, false, false, false, false, false, false, false, false, false, false, false, false, false, false, false, false, false, false, false, false, false, false, false, false, false, false, false, false, false, false, false, false, false, false], 4, [false, false, true, true, true, true, false, true, false, false, false, false, false, false, false, false, false, false, false, false, false, false, false, false, false, false, false, false, false, false, false, false, false, false, false, false, false, false, false, false, false, false, false, false, false, false, false, false, false, false, false, false, false, false, false, false, false, false, false, false, false, false, false, false, false, false, false, false, false, false, false, false, false, false, false, false, false, false, false, false, false, false, false, false, false, false, false, false, false, false, false, false, false, false, false, false, false, false, false, false, false, false, false, false, false, false, false, false, false, false, false, false, false, false, false, false, false, false, false, false, false, false, false, false, false, false, false, false, false, false, false, false, false, false, false, false, false, false, false, false, false, false, false, false, false, false], 2, slen (nameF a) + 1⟩
def st6 (a b : E6) (s : List UInt8) (i : Nat) (x y : E6) (j : Nat → V) : St := ⟨[j 0, j 1, .ptr 0 0, .ptr 1 0, bV false, iV (codeN a), j 6, .str s, j 8, j 9, j 10, j 11, j 12, iV (Int.ofNat i), j 14, j 15, j 16, j 17, j 18, j 19, j 20, j 21, j 22, j 23, j 24, j 25, j 26, j 27, j 28, j 29, j 30, j 31, j 32, j 33, j 34, j 35, j 36, j 37, j 38, j 39, j 40, j 41, j 42, j 43, j 44, j 45, j 46, j 47, j 48, j 49, j 50, j 51, j 52, j 53, j 54, j 55, j 56, j 57, j 58, j 59, j 60, j 61, j 62, j 63, j 64, j 65, j 66, j 67, j 68, j 69, j 70, j 71, j 72, j 73, j 74, j 75, j 76, j 77, j 78, j 79, j 80, j 81, j 82, j 83, j 84, j 85, j 86, j 87, j 88, j 89, j 90, j 91, j 92, j 93, j 94, j 95, j 96, j 97, j 98, j 99, j 100, j 101, j 102, j 103, j 104, j 105, j 106, j 107, j 108, j 109, j 110, j 111, j 112, j 113, j 114, j 115, j 116, j 117, j 118, j 119, j 120, j 121, j 122, j 123, j 124, j 125, j 126, j 127, j 128, j 129, j 130, j 131, j 132, j 133, j 134, j 135, j 136, j 137, j 138, j 139, j 140, j 141, j 142, j 143, j 144, j 145], [.cells [(iV (a).kind), (bV (a).ext), (bV (a).same), (iV (a).src), (iV (a).dst), (iV (a).fence)], .cells [(iV (b).kind), (bV (b).ext), (bV (b).same), (iV (b).src), (iV (b).dst), (iV (b).fence)], .cells [(iV (x).kind), (bV (x).ext), (bV (x).same), (iV (x).src), (iV (x).dst), (iV (x).fence)], .cells [(iV (y).kind), (bV (y).ext), (bV (y).same), (iV (y).src), (iV (y).dst), (iV (y).fence)]]⟩
def en6a (a b : E6) (s : List UInt8) (i : Nat) (x y : E6) : Ex × St := (.ex 0, ⟨[.und, .und, .ptr 0 0, .ptr 1 0, bV false, iV (codeN a), .und, .str s, .und, .und, .und, .und, .und, .und, .und, .und, .und, .und, .und, .und, .und, .und, .und, .und, .und, .und, .und, .und, .und, .und, .und, .und, .und, .und, .und, .und, .und, .und, .und, .und, .und, .und, .und, .und, .und, .und, .und, .und, .und, .und, .und, .und, .und, .und, .und, .und, .und, .und, .und, .und, .und, .und, .und, .und, .und, .und, .und, .und, .und, .und, .und, .und, .und, .und, .und, .und, .und, .und, .und, .und, .und, .und, .und, .und, .und, .und, .und, .und, .und, .und, .und, .und, .und, .und, .und, .und, .und, .und, .und, .und, .und, .und, .und, .und, .und, .und, .und, .und, .und, .und, .und, .und, .und, .und, .und, .und, .und, .und, .und, .und, .und, .und, .und, .und, .und, .und, .und, .und, .und, .und, .und, .und, .und, .und, .und, .und, .und, .und, .und, .und, .und, .und, .und, .und, .und, .und], [.cells [(iV (a).kind), (bV (a).ext), (bV (a).same), (iV (a).src), (iV (a).dst), (iV (a).fence)], .cells [(iV (b).kind), (bV (b).ext), (bV (b).same), (iV (b).src), (iV (b).dst), (iV (b).fence)]]⟩)
noncomputable def body6 (L : Nat → (St → T (Ex × St)) → St → T (Ex × St)) : St → T (Ex × St) := fun st => evalC tab ⟨callT tb7, L, Gl⟩ (loopBody Tryd.f6 0) 0 st
theorem round6a_p (L : Nat → (St → T (Ex × St)) → St → T (Ex × St)) (a b : E6) (s : List UInt8) (i : Nat) (x y : E6)  (j : Nat → V) : ((body6 L (st6 a b s i x y j)).bind fun r => T.leaf (cutR (lp6 a b) r)).path [false] = some ([(ilt (Int.ofNat i) (Int.ofNat (slen s)))], ((.ex 0), ⟨[.und, .und, (.ptr 0 0), (.ptr 1 0), (bV Bool.false), (iV (codeN a)), .und, (.str s), .und, .und, .und, .und, .und, .und, .und, .und, .und, .und, .und, .und, .und, .und, .und, .und, .und, .und, .und, .und, .und, .und, .und, .und, .und, .und, .und, .und, .und, .und, .und, .und, .und, .und, .und, .und, .und, .und, .und, .und, .und, .und, .und, .und, .und, .und, .und, .und, .und, .und, .und, .und, .und, .und, .und, .und, .und, .und, .und, .und, .und, .und, .und, .und, .und, .und, .und, .und, .und, .und, .und, .und, .und, .und, .und, .und, .und, .und, .und, .und, .und, .und, .und, .und, .und, .und, .und, .und, .und, .und, .und, .und, .und, .und, .und, .und, .und, .und, .und, .und, .und, .und, .und, .und, .und, .und, .und, .und, .und, .und, .und, .und, .und, .und, .und, .und, .und, .und, .und, .und, .und, .und, .und, .und, .und, .und, .und, .und, .und, .und, .und, .und, .und, .und, .und, .und, .und, .und], [(.cells [(iV (a).kind), (bV (a).ext), (bV (a).same), (iV (a).src), (iV (a).dst), (iV (a).fence)]), (.cells [(iV (b).kind), (bV (b).ext), (bV (b).same), (iV (b).src), (iV (b).dst), (iV (b).fence)])]⟩)) := by kernel_rfl
theorem round6a (L : Nat → (St → T (Ex × St)) → St → T (Ex × St)) (a b : E6) (s : List UInt8) (i : Nat) (x y : E6)  (j : Nat → V) (h0 : ilt (Int.ofNat i) (Int.ofNat (slen s)) = false) : ((body6 L (st6 a b s i x y j)).bind fun r => T.leaf (cutR (lp6 a b) r)).sem = some ((.ex 0), ⟨[.und, .und, (.ptr 0 0), (.ptr 1 0), (bV Bool.false), (iV (codeN a)), .und, (.str s), .und, .und, .und, .und, .und, .und, .und, .und, .und, .und, .und, .und, .und, .und, .und, .und, .und, .und, .und, .und, .und, .und, .und, .und, .und, .und, .und, .und, .und, .und, .und, .und, .und, .und, .und, .und, .und, .und, .und, .und, .und, .und, .und, .und, .und, .und, .und, .und, .und, .und, .und, .und, .und, .und, .und, .und, .und, .und, .und, .und, .und, .und, .und, .und, .und, .und, .und, .und, .und, .und, .und, .und, .und, .und, .und, .und, .und, .und, .und, .und, .und, .und, .und, .und, .und, .und, .und, .und, .und, .und, .und, .und, .und, .und, .und, .und, .und, .und, .und, .und, .und, .und, .und, .und, .und, .und, .und, .und, .und, .und, .und, .und, .und, .und, .und, .und, .und, .und, .und, .und, .und, .und, .und, .und, .und, .und, .und, .und, .und, .und, .und, .und, .und, .und, .und, .und, .und, .und], [(.cells [(iV (a).kind), (bV (a).ext), (bV (a).same), (iV (a).src), (iV (a).dst), (iV (a).fence)]), (.cells [(iV (b).kind), (bV (b).ext), (bV (b).same), (iV (b).src), (iV (b).dst), (iV (b).fence)])]⟩) :=
  sem_of_path (round6a_p L a b s i x y j) (by simp only [h0] <;> rfl)
theorem round6n_p (L : Nat → (St → T (Ex × St)) → St → T (Ex × St)) (a b : E6) (s : List UInt8) (i : Nat) (x y : E6)  (j : Nat → V) : ((body6 L (st6 a b s i x y j)).bind fun r => T.leaf (cutR (lp6 a b) r)).path [true, true, false, false, false, true, false, false, false, false, false, true, false, false, false] = some ([(ilt (Int.ofNat i) (Int.ofNat (slen s))), (band (ile 0 (Int.ofNat i)) (ilt (Int.ofNat i) (Int.ofNat (slen s)))), (ile (sget s i) 32), (ile (sget s i) 32), (ile (sget s i) 32), (band (ile 0 (Int.ofNat i)) (ilt (Int.ofNat i) (Int.ofNat (slen s)))), (ile (sget s i) 32), (ile (sget s i) 32), (ieq (sget s i) 43), (ieq (sget s i) 43), (ieq (sget s i) 43), (band (ile 0 (Int.ofNat i)) (ilt (Int.ofNat i) (Int.ofNat (slen s)))), (ieq (sget s i) 43), (ieq (sget s i) 43), (ilt 126 (sget s i))], (.nm, ⟨[.und, .und, (.ptr 0 0), (.ptr 1 0), (bV Bool.false), (iV (codeN a)), .und, (.str s), .und, .und, .und, .und, .und, (iV (wr IntKind.i64 (iadd (Int.ofNat i) 1))), .und, .und, .und, .und, .und, .und, .und, .und, .und, .und, .und, .und, .und, .und, .und, .und, .und, .und, .und, .und, .und, .und, .und, .und, .und, .und, .und, .und, .und, .und, .und, .und, .und, .und, .und, .und, .und, .und, .und, .und, .und, .und, .und, .und, .und, .und, .und, .und, .und, .und, .und, .und, .und, .und, .und, .und, .und, .und, .und, .und, .und, .und, .und, .und, .und, .und, .und, .und, .und, .und, .und, .und, .und, .und, .und, .und, .und, .und, .und, .und, .und, .und, .und, .und, .und, .und, .und, .und, .und, .und, .und, .und, .und, .und, .und, .und, .und, .und, .und, .und, .und, .und, .und, .und, .und, .und, .und, .und, .und, .und, .und, .und, .und, .und, .und, .und, .und, .und, .und, .und, .und, .und, .und, .und, .und, .und, .und, .und, .und, .und, .und, .und], [(.cells [(iV (a).kind), (bV (a).ext), (bV (a).same), (iV (a).src), (iV (a).dst), (iV (a).fence)]), (.cells [(iV (b).kind), (bV (b).ext), (bV (b).same), (iV (b).src), (iV (b).dst), (iV (b).fence)]), (.cells [(iV (x).kind), (bV (x).ext), (bV (x).same), (iV (x).src), (iV (x).dst), (iV (x).fence)]), (.cells [(iV (y).kind), (bV (y).ext), (bV (y).same), (iV (y).src), (iV (y).dst), (iV (y).fence)])]⟩)) := by kernel_rfl
theorem round6n (L : Nat → (St → T (Ex × St)) → St → T (Ex × St)) (a b : E6) (s : List UInt8) (i : Nat) (x y : E6)  (j : Nat → V) (h0 : ilt (Int.ofNat i) (Int.ofNat (slen s)) = true) (h1 : band (ile 0 (Int.ofNat i)) (ilt (Int.ofNat i) (Int.ofNat (slen s))) = true) (h2 : ile (sget s i) 32 = false) (h3 : ieq (sget s i) 43 = false) (h4 : ilt 126 (sget s i) = false) : ((body6 L (st6 a b s i x y j)).bind fun r => T.leaf (cutR (lp6 a b) r)).sem = some (.nm, ⟨[.und, .und, (.ptr 0 0), (.ptr 1 0), (bV Bool.false), (iV (codeN a)), .und, (.str s), .und, .und, .und, .und, .und, (iV (wr IntKind.i64 (iadd (Int.ofNat i) 1))), .und, .und, .und, .und, .und, .und, .und, .und, .und, .und, .und, .und, .und, .und, .und, .und, .und, .und, .und, .und, .und, .und, .und, .und, .und, .und, .und, .und, .und, .und, .und, .und, .und, .und, .und, .und, .und, .und, .und, .und, .und, .und, .und, .und, .und, .und, .und, .und, .und, .und, .und, .und, .und, .und, .und, .und, .und, .und, .und, .und, .und, .und, .und, .und, .und, .und, .und, .und, .und, .und, .und, .und, .und, .und, .und, .und, .und, .und, .und, .und, .und, .und, .und, .und, .und, .und, .und, .und, .und, .und, .und, .und, .und, .und, .und, .und, .und, .und, .und, .und, .und, .und, .und, .und, .und, .und, .und, .und, .und, .und, .und, .und, .und, .und, .und, .und, .und, .und, .und, .und, .und, .und, .und, .und, .und, .und, .und, .und, .und, .und, .und, .und], [(.cells [(iV (a).kind), (bV (a).ext), (bV (a).same), (iV (a).src), (iV (a).dst), (iV (a).fence)]), (.cells [(iV (b).kind), (bV (b).ext), (bV (b).same), (iV (b).src), (iV (b).dst), (iV (b).fence)]), (.cells [(iV (x).kind), (bV (x).ext), (bV (x).same), (iV (x).src), (iV (x).dst), (iV (x).fence)]), (.cells [(iV (y).kind), (bV (y).ext), (bV (y).same), (iV (y).src), (iV (y).dst), (iV (y).fence)])]⟩) :=
  sem_of_path (round6n_p L a b s i x y j) (by simp only [h0, h1, h2, h3, h4] <;> rfl)
def jk6 (a b : E6)  : Nat → V
  | 0 => (eV a)
  | 1 => (eV b)
  | 6 => (iV (codeF a))
  | 8 => (iV (codeF a))
  | 9 => (.ptr 2 0)
  | 10 => (iV 0)
  | 11 => (.ptr 3 0)
  | 12 => (iV (parseF (nameF a)))
  | 16 => (.tup [(iV (codeN a)), (iV (codeF a))])
  | 17 => (eV a)
  | 18 => (.tup [(iV (codeN a)), (iV (codeF a))])
  | 19 => (iV (codeN a))
  | 20 => (iV (codeF a))
  | 21 => (.tup [(.str (nameF a)), (iV (codeF a))])
  | 22 => (eV a)
  | 23 => (.tup [(.str (nameF a)), (iV (codeF a))])
  | 24 => (.str (nameF a))
  | 25 => (iV (codeF a))
  | 26 => (iV (codeF a))
  | 27 => (bV (bnot (ieq (codeF a) 0)))
  | 47 => (.tup [(eV (madeE (toN (codeN a)))), (iV 0)])
  | 48 => (iV (codeN a))
  | 49 => (.tup [(eV (madeE (toN (codeN a)))), (iV 0)])
  | 50 => (eV (madeE (toN (codeN a))))
  | 51 => (iV 0)
  | 52 => (.tup [(eV (parseE (nameF a))), (iV (parseF (nameF a)))])
  | 53 => (.str (nameF a))
  | 54 => (.tup [(eV (parseE (nameF a))), (iV (parseF (nameF a)))])
  | 55 => (eV (parseE (nameF a)))
  | 56 => (iV (parseF (nameF a)))
  | 57 => (iV (codeF a))
  | 58 => (bV (bnot (ieq (codeF a) 0)))
  | 59 => (bV (bnot (ieq (codeF a) 0)))
  | 60 => (iV 0)
  | 61 => (bV (bnot (ieq 0 0)))
  | 62 => (bV (bnot (ieq 0 0)))
  | 63 => (bV (bnot (ieq 0 0)))
  | 64 => (iV (parseF (nameF a)))
  | 65 => (bV (bnot (ieq (parseF (nameF a)) 0)))
  | 66 => (bV (bnot (ieq (parseF (nameF a)) 0)))
  | 67 => (bV (bnot (ieq (parseF (nameF a)) 0)))
  | 68 => (eV (madeE (toN (codeN a))))
  | 69 => (eV a)
  | 70 => (bV (bnot (eqE (madeE (toN (codeN a))) a)))
  | 71 => (bV (bnot (eqE (madeE (toN (codeN a))) a)))
  | 72 => (bV (bnot (eqE (madeE (toN (codeN a))) a)))
  | 73 => (eV (parseE (nameF a)))
  | 74 => (eV a)
  | 75 => (bV (bnot (eqE (parseE (nameF a)) a)))
  | 76 => (bV (bnot (eqE (parseE (nameF a)) a)))
  | 77 => (bV (bnot (eqE (parseE (nameF a)) a)))
  | 78 => (.str (nameF a))
  | 79 => (iV (Int.ofNat (slen (nameF a))))
  | 80 => (bV (ieq (Int.ofNat (slen (nameF a))) 0))
  | 81 => (bV (ieq (Int.ofNat (slen (nameF a))) 0))
  | _ => undefV

theorem way6e_p (L : Nat → (St → T (Ex × St)) → St → T (Ex × St)) (a b : E6) : (finF (evalF tab ⟨callT tb7, L, Gl⟩ Tryd.f6 [eV a, eV b] [])).path [true, true, true, true, true, true, true, true, true, true, true, true, true] = some ([(bnot (ieq (codeF a) 0)), (ieq (codeF a) (codeF a)), (ieq (codeF a) (codeF a)), (ieq (codeF a) (codeF a)), (ieq (codeN a) 0), (ieq (codeN a) 0), (ieq (codeN a) 0), (seq (nameF a) []), (seq (nameF a) []), (seq (nameF a) []), (seq (nameF a) []), (bnot (ieq (codeF a) 0)), (bnot (ieq (codeF a) 0))], ((bV Bool.true), [])) := by kernel_rfl
theorem way6e (L : Nat → (St → T (Ex × St)) → St → T (Ex × St)) (a b : E6) (h0 : ieq (codeF a) 0 = false) (h1 : ieq (codeF a) (codeF a) = true) (h2 : ieq (codeN a) 0 = true) (h3 : seq (nameF a) [] = true) : (finF (evalF tab ⟨callT tb7, L, Gl⟩ Tryd.f6 [eV a, eV b] [])).sem = some ((bV Bool.true), []) :=
  sem_of_path (way6e_p L a b) (by simp only [h0, h1, h2, h3] <;> rfl)

theorem way6f_p (L : Nat → (St → T (Ex × St)) → St → T (Ex × St)) (p0 : (St → T (Ex × St)) → St → Bool) (a b : E6) : (finF (evalF tab ⟨callT tb7, (onP 0 p0 (en6a a b (nameF a) 0 (madeE (toN (codeN a))) (parseE (nameF a))) L), Gl⟩ Tryd.f6 [eV a, eV b] [])).path [false, true, false, false, false, false, false, false, false, false, false, false, false, false, false, false, false, false, false, false, false, true, true, true, true, true, true, true, true] = some ([(bnot (ieq (codeF a) 0)), (inR (codeN a)), (bnot (ieq (codeF a) 0)), (bnot (ieq (codeF a) 0)), (bnot (ieq (codeF a) 0)), (bnot (ieq 0 0)), (bnot (ieq 0 0)), (bnot (ieq 0 0)), (bnot (ieq (parseF (nameF a)) 0)), (bnot (ieq (parseF (nameF a)) 0)), (bnot (ieq (parseF (nameF a)) 0)), (bnot (ieq (parseF (nameF a)) 0)), (bnot (eqE (madeE (toN (codeN a))) a)), (bnot (eqE (madeE (toN (codeN a))) a)), (bnot (eqE (madeE (toN (codeN a))) a)), (bnot (eqE (madeE (toN (codeN a))) a)), (bnot (eqE (parseE (nameF a)) a)), (bnot (eqE (parseE (nameF a)) a)), (bnot (eqE (parseE (nameF a)) a)), (bnot (eqE (parseE (nameF a)) a)), (ieq (Int.ofNat (slen (nameF a))) 0), (p0 (body6 (onP 0 p0 (en6a a b (nameF a) 0 (madeE (toN (codeN a))) (parseE (nameF a))) L)) (st6 a b (nameF a) 0 (madeE (toN (codeN a))) (parseE (nameF a)) (jk6 a b ))), (bnot (ieq (codeF b) 0)), (ieq (codeF b) (codeF b)), (ieq (codeF b) (codeF b)), (ieq (codeF b) (codeF b)), (ieq (codeF b) (codeF b)), (bnot (ieq (codeF b) 0)), (bnot (ieq (codeF b) 0))], ((bV Bool.true), [])) := by kernel_rfl
theorem way6f (L : Nat → (St → T (Ex × St)) → St → T (Ex × St)) (p0 : (St → T (Ex × St)) → St → Bool) (a b : E6) (h0 : ieq (codeF a) 0 = true) (h1 : inR (codeN a) = true) (h2 : ieq (parseF (nameF a)) 0 = true) (h3 : eqE (madeE (toN (codeN a))) a = true) (h4 : eqE (parseE (nameF a)) a = true) (h5 : ieq (Int.ofNat (slen (nameF a))) 0 = false) (h6 : ieq (codeF b) 0 = false) (h7 : ieq (codeF b) (codeF b) = true) (hp0 : p0 (body6 (onP 0 p0 (en6a a b (nameF a) 0 (madeE (toN (codeN a))) (parseE (nameF a))) L)) (st6 a b (nameF a) 0 (madeE (toN (codeN a))) (parseE (nameF a)) (jk6 a b )) = true) : (finF (evalF tab ⟨callT tb7, (onP 0 p0 (en6a a b (nameF a) 0 (madeE (toN (codeN a))) (parseE (nameF a))) L), Gl⟩ Tryd.f6 [eV a, eV b] [])).sem = some ((bV Bool.true), []) :=
  sem_of_path (way6f_p L p0 a b) (by simp only [h0, h1, h2, h3, h4, h5, h6, h7, hp0] <;> rfl)

theorem way6t_p (L : Nat → (St → T (Ex × St)) → St → T (Ex × St)) (p0 : (St → T (Ex × St)) → St → Bool) (a b : E6) : (finF (evalF tab ⟨callT tb7, (onP 0 p0 (en6a a b (nameF a) 0 (madeE (toN (codeN a))) (parseE (nameF a))) L), Gl⟩ Tryd.f6 [eV a, eV b] [])).path [false, true, false, false, false, false, false, false, false, false, false, false, false, false, false, false, false, false, false, false, false, true, false, true, true, true, true, true, true, true, true, true, true] = some ([(bnot (ieq (codeF a) 0)), (inR (codeN a)), (bnot (ieq (codeF a) 0)), (bnot (ieq (codeF a) 0)), (bnot (ieq (codeF a) 0)), (bnot (ieq 0 0)), (bnot (ieq 0 0)), (bnot (ieq 0 0)), (bnot (ieq (parseF (nameF a)) 0)), (bnot (ieq (parseF (nameF a)) 0)), (bnot (ieq (parseF (nameF a)) 0)), (bnot (ieq (parseF (nameF a)) 0)), (bnot (eqE (madeE (toN (codeN a))) a)), (bnot (eqE (madeE (toN (codeN a))) a)), (bnot (eqE (madeE (toN (codeN a))) a)), (bnot (eqE (madeE (toN (codeN a))) a)), (bnot (eqE (parseE (nameF a)) a)), (bnot (eqE (parseE (nameF a)) a)), (bnot (eqE (parseE (nameF a)) a)), (bnot (eqE (parseE (nameF a)) a)), (ieq (Int.ofNat (slen (nameF a))) 0), (p0 (body6 (onP 0 p0 (en6a a b (nameF a) 0 (madeE (toN (codeN a))) (parseE (nameF a))) L)) (st6 a b (nameF a) 0 (madeE (toN (codeN a))) (parseE (nameF a)) (jk6 a b ))), (bnot (ieq (codeF b) 0)), (beqB (ieq (codeN a) (codeN b)) (eqE a b)), (beqB (ieq (codeN a) (codeN b)) (eqE a b)), (beqB (ieq (codeN a) (codeN b)) (eqE a b)), (beqB (ieq (codeN a) (codeN b)) (eqE a b)), (beqB (ieq (codeN a) (codeN b)) (eqE a b)), (beqB (ieq (codeN a) (codeN b)) (eqE a b)), (beqB (ieq (codeN a) (codeN b)) (eqE a b)), (beqB (ieq (codeN a) (codeN b)) (eqE a b)), (beqB (seq (nameF a) (nameF b)) (eqE a b)), (beqB (seq (nameF a) (nameF b)) (eqE a b))], ((bV Bool.true), [])) := by kernel_rfl
theorem way6t (L : Nat → (St → T (Ex × St)) → St → T (Ex × St)) (p0 : (St → T (Ex × St)) → St → Bool) (a b : E6) (h0 : ieq (codeF a) 0 = true) (h1 : inR (codeN a) = true) (h2 : ieq (parseF (nameF a)) 0 = true) (h3 : eqE (madeE (toN (codeN a))) a = true) (h4 : eqE (parseE (nameF a)) a = true) (h5 : ieq (Int.ofNat (slen (nameF a))) 0 = false) (h6 : ieq (codeF b) 0 = true) (h7 : ieq (codeN a) (codeN b) = true) (h8 : eqE a b = true) (h9 : seq (nameF a) (nameF b) = true) (hp0 : p0 (body6 (onP 0 p0 (en6a a b (nameF a) 0 (madeE (toN (codeN a))) (parseE (nameF a))) L)) (st6 a b (nameF a) 0 (madeE (toN (codeN a))) (parseE (nameF a)) (jk6 a b )) = true) : (finF (evalF tab ⟨callT tb7, (onP 0 p0 (en6a a b (nameF a) 0 (madeE (toN (codeN a))) (parseE (nameF a))) L), Gl⟩ Tryd.f6 [eV a, eV b] [])).sem = some ((bV Bool.true), []) :=
  sem_of_path (way6t_p L p0 a b) (by simp only [h0, h1, h2, h3, h4, h5, h6, h7, h8, h9, hp0] <;> rfl)

theorem way6n_p (L : Nat → (St → T (Ex × St)) → St → T (Ex × St)) (p0 : (St → T (Ex × St)) → St → Bool) (a b : E6) : (finF (evalF tab ⟨callT tb7, (onP 0 p0 (en6a a b (nameF a) 0 (madeE (toN (codeN a))) (parseE (nameF a))) L), Gl⟩ Tryd.f6 [eV a, eV b] [])).path [false, true, false, false, false, false, false, false, false, false, false, false, false, false, false, false, false, false, false, false, false, true, false, true, true, true, true, true, true, true, true, true, true] = some ([(bnot (ieq (codeF a) 0)), (inR (codeN a)), (bnot (ieq (codeF a) 0)), (bnot (ieq (codeF a) 0)), (bnot (ieq (codeF a) 0)), (bnot (ieq 0 0)), (bnot (ieq 0 0)), (bnot (ieq 0 0)), (bnot (ieq (parseF (nameF a)) 0)), (bnot (ieq (parseF (nameF a)) 0)), (bnot (ieq (parseF (nameF a)) 0)), (bnot (ieq (parseF (nameF a)) 0)), (bnot (eqE (madeE (toN (codeN a))) a)), (bnot (eqE (madeE (toN (codeN a))) a)), (bnot (eqE (madeE (toN (codeN a))) a)), (bnot (eqE (madeE (toN (codeN a))) a)), (bnot (eqE (parseE (nameF a)) a)), (bnot (eqE (parseE (nameF a)) a)), (bnot (eqE (parseE (nameF a)) a)), (bnot (eqE (parseE (nameF a)) a)), (ieq (Int.ofNat (slen (nameF a))) 0), (p0 (body6 (onP 0 p0 (en6a a b (nameF a) 0 (madeE (toN (codeN a))) (parseE (nameF a))) L)) (st6 a b (nameF a) 0 (madeE (toN (codeN a))) (parseE (nameF a)) (jk6 a b ))), (bnot (ieq (codeF b) 0)), (beqB (ieq (codeN a) (codeN b)) (eqE a b)), (beqB (ieq (codeN a) (codeN b)) (eqE a b)), (beqB (ieq (codeN a) (codeN b)) (eqE a b)), (beqB (ieq (codeN a) (codeN b)) (eqE a b)), (beqB (ieq (codeN a) (codeN b)) (eqE a b)), (beqB (ieq (codeN a) (codeN b)) (eqE a b)), (beqB (ieq (codeN a) (codeN b)) (eqE a b)), (beqB (ieq (codeN a) (codeN b)) (eqE a b)), (beqB (seq (nameF a) (nameF b)) (eqE a b)), (beqB (seq (nameF a) (nameF b)) (eqE a b))], ((bV Bool.true), [])) := by kernel_rfl
theorem way6n (L : Nat → (St → T (Ex × St)) → St → T (Ex × St)) (p0 : (St → T (Ex × St)) → St → Bool) (a b : E6) (h0 : ieq (codeF a) 0 = true) (h1 : inR (codeN a) = true) (h2 : ieq (parseF (nameF a)) 0 = true) (h3 : eqE (madeE (toN (codeN a))) a = true) (h4 : eqE (parseE (nameF a)) a = true) (h5 : ieq (Int.ofNat (slen (nameF a))) 0 = false) (h6 : ieq (codeF b) 0 = true) (h7 : ieq (codeN a) (codeN b) = false) (h8 : eqE a b = false) (h9 : seq (nameF a) (nameF b) = false) (hp0 : p0 (body6 (onP 0 p0 (en6a a b (nameF a) 0 (madeE (toN (codeN a))) (parseE (nameF a))) L)) (st6 a b (nameF a) 0 (madeE (toN (codeN a))) (parseE (nameF a)) (jk6 a b )) = true) : (finF (evalF tab ⟨callT tb7, (onP 0 p0 (en6a a b (nameF a) 0 (madeE (toN (codeN a))) (parseE (nameF a))) L), Gl⟩ Tryd.f6 [eV a, eV b] [])).sem = some ((bV Bool.true), []) :=
  sem_of_path (way6n_p L p0 a b) (by simp only [h0, h1, h2, h3, h4, h5, h6, h7, h8, h9, hp0] <;> rfl)

/-- Bytes that may stand in a name. -/
def goodB (s : List UInt8) (i : Nat) : Bool := band (bnot (ile (sget s i) 32)) (band (bnot (ieq (sget s i) 43)) (bnot (ilt 126 (sget s i))))
def goodS (s : List UInt8) : Bool := band (bnot (ieq (Int.ofNat (slen s)) 0)) (band (Nat.ble (slen s) 100) (allN (slen s) (goodB s)))

theorem names_good : (List.range 112).map (fun k => goodS (nameS k)) = (List.range 112).map fun _ => true := by kernel_rfl
theorem names_found : (List.range 112).map (fun k => findS (nameS k) 112 0) = (List.range 112).map some := by kernel_rfl

theorem run6 (L : Nat → (St → T (Ex × St)) → St → T (Ex × St)) (a b : E6) (s : List UInt8) (x y : E6) (hs : allN (slen s) (goodB s) = true) (hn : slen s ≤ 4611686018427387904) : ∀ (d i : Nat) (j : Nat → V) (q : Nat), slen s = i + d → d < q →
    (iterT (body6 L) (lp6 a b) q (st6 a b s i x y j)).sem = some (en6a a b s 0 x y)
  | 0, i, j, q + 1, h1, _ => by
    rw [iter_round (round6a L a b s i x y j (ofNat_ge (by omega)))]
    rfl
  | d + 1, i, j, q + 1, h1, h2 => by
    have hi : i < slen s := by omega
    have hg := allN_iff.1 hs i hi
    simp only [goodB, band, bnot, Bool.and_eq_true, Bool.not_eq_true'] at hg
    rw [iter_round (round6n L a b s i x y j (ofNat_lt hi) (ofNat_in hi) hg.1 hg.2.1 hg.2.2), succ_wr hi hn]
    exact run6 L a b s x y hs hn d (i + 1) (fun _ => .und) q (by omega) (by omega)

theorem law6 (a b : E6) : (finF (evalF tab (cxOf Gl tb7 [(0, lp6 a b)]) Tryd.f6 [eV a, eV b] [])).sem = some (bV true, []) := by
  have hL := loopsBy_le [(0, lp6 a b)]
  rcases codeF_cases a with ⟨k, hk, hf, hn, he, hna⟩ | ⟨hf, hn, hna, _⟩
  rotate_left
  · exact way6e _ a b (by rw [hf]; rfl) (ieq_self _) (by rw [hn]; rfl) (by rw [hna]; rfl)
  have g0 := all_below names_good k hk
  simp only [goodS, band, bnot, Bool.and_eq_true, Bool.not_eq_true'] at g0
  have fk : findS (nameS k) 112 0 = some k := all_below names_found k hk
  have pk : parseE (nameS k) = madeE k ∧ parseF (nameS k) = 0 := by
    unfold parseE parseF
    rw [fk]
    exact ⟨rfl, rfl⟩
  have h0 : ieq (codeF a) 0 = true := by rw [hf]; rfl
  have h1 : inR (codeN a) = true := by rw [hn]; simp [inR]; omega
  have h2 : ieq (parseF (nameF a)) 0 = true := by rw [hna, pk.2]; rfl
  have h3 : eqE (madeE (toN (codeN a))) a = true := by
    rw [hn]
    exact (eqE_iff _ _).2 he
  have h4 : eqE (parseE (nameF a)) a = true := by
    rw [hna, pk.1]
    exact (eqE_iff _ _).2 he
  have h5 : ieq (Int.ofNat (slen (nameF a))) 0 = false := by rw [hna]; exact g0.1
  have hl := Nat.le_of_ble_eq_true g0.2.1
  have hr := fun L => run6 L a b (nameF a) (madeE (toN (codeN a))) (parseE (nameF a)) (by rw [hna]; exact g0.2.2) (by rw [hna]; omega) (slen (nameF a)) 0 (jk6 a b) (slen (nameF a) + 1) (by omega) (by omega)
  rcases codeF_cases b with ⟨m, hm, bf, bn, be, bna⟩ | ⟨bf, bn, bna, _⟩
  rotate_left
  · exact told_le (onP_le hL hL) _ (way6f _ _ a b h0 h1 h2 h3 h4 h5 (by rw [bf]; rfl) (ieq_self _) (isP_true (hr _)))
  have h6 : ieq (codeF b) 0 = true := by rw [bf]; rfl
  by_cases hkm : k = m
  · subst hkm
    exact told_le (onP_le hL hL) _ (way6t _ _ a b h0 h1 h2 h3 h4 h5 h6 (by rw [hn, bn]; exact ieq_self _) ((eqE_iff _ _).2 (by rw [← he, ← be])) (by rw [hna, bna]; exact seq_self _) (isP_true (hr _)))
  · have q1 : ieq (codeN a) (codeN b) = false := by
      rw [hn, bn]
      simp [ieq]
      omega
    have q2 : eqE a b = false := by
      cases hq : eqE a b with
      | false => rfl
      | true =>
        have := (eqE_iff _ _).1 hq
        subst this
        rw [hn] at bn
        exact absurd (Int.ofNat.inj bn) hkm
    have q3 : seq (nameF a) (nameF b) = false := by
      cases hq : seq (nameF a) (nameF b) with
      | false => rfl
      | true =>
        have hq : nameF a = nameF b := by simpa [seq] using hq
        rw [hna, bna] at hq
        have fm : findS (nameS m) 112 0 = some m := all_below names_found m hm
        rw [← hq, fk] at fm
        exact absurd (Option.some.inj fm) hkm
    exact told_le (onP_le hL hL) _ (way6n _ _ a b h0 h1 h2 h3 h4 h5 h6 q1 q2 q3 (isP_true (hr _)))

theorem p6 : PureC Tryd.prog Gl 6 (ap2 toE toE fun _ _ => out (bV true)) := by
  refine pureC_intro tabOK mixed Tryd.func6 (by kernel_rfl) (by kernel_rfl) fun vs v h' h => ?_
  obtain ⟨a, b, rfl, h⟩ := ap2_some toE_ok toE_ok h
  have := sem_leaf h
  simp only [Prod.mk.injEq] at this
  obtain ⟨rfl, rfl⟩ := this
  have hx := cx_ok tb7_ok [(0, lp6 a b)]
  exact ⟨_, cxOf Gl tb7 [(0, lp6 a b)], _, ArgLE.refl _, rfl, hx.1, hx.2, law6 a b, RowsLE.refl _⟩

end Go.Proofs.YtcaljjnadbpacaaDoor.Ed
