/-
  Layer 3: the law EdgeAll as a function. No conditions.
-/
import Derived.Test.YtcaljjnadbpacaaDoorEdO
namespace Go.Proofs.YtcaljjnadbpacaaDoor.Ed
open Go.Sy

def T0 : Nat → V := fun i => nth [iV 0, iV 22, iV 104] i

def lp10_2 (e : E6) : Lp := ⟨[false, true, true, true, true, false, true, true, true, false, false, false, false, false, false, false, false, false, false, false, false, false, false, false, false, false, false, false, false, false, false, false, false, false, false, false, false, false, false, false, false, false, false, false, false, false, false, false, false, false, false, false, false, false, false, false, false, false, false, false, false, false, false, false, false, false, false, false, false, false, false, false, false, false, false, false, false, false, false, false, false, false, false, false, false, false, false, false, false, false, false, false, false, false, false, false, false, false, false, false, false], 3, [false, true, true, true, true, false, false, true, false, false, false, false, false, false, false, false, false, false, false, false, false, false, false, false, false, false, false, false, false, false, false, false, false, false, false, false, false, false, false, false, false, false, false, false, false, false, false, false, false, false, false, false, false, false, false, false, false, false, false, false, false, false, false, false, false, false, false, false, false, false, false, false, false, false, false, false, false, false, false, false, false, false, false, false, false, false, false, false, false, false, false, false, false, false, false, false, false, false, false, false, false], 2, 105⟩
def st10_2 (e : E6) (A : Int) (N : Nat) (g : Nat → E6) (h : Nat → V) (last : Int) (t : Bool) (i : Nat) (j : Nat → V) : St := ⟨[j 0, .ptr 0 0, bV false, iV A, .ref 1, j 5, iV last, bV t, iV (Int.ofNat i), j 9, j 10, j 11, j 12, j 13, j 14, j 15, j 16, j 17, j 18, j 19, j 20, j 21, j 22, j 23, j 24, j 25, j 26, j 27, j 28, j 29, j 30, j 31, j 32, j 33, j 34, j 35, j 36, j 37, j 38, j 39, j 40, j 41, j 42, j 43, j 44, j 45, j 46, j 47, j 48, j 49, j 50, j 51, j 52, j 53, j 54, j 55, j 56, j 57, j 58, j 59, j 60, j 61, j 62, j 63, j 64, j 65, j 66, j 67, j 68, j 69, j 70, j 71, j 72, j 73, j 74, j 75, j 76, j 77, j 78, j 79, j 80, j 81, j 82, j 83, j 84, j 85, j 86, j 87, j 88, j 89, j 90, j 91, j 92, j 93, j 94, j 95, j 96, j 97, j 98, j 99, j 100], [.cells [(iV (e).kind), (bV (e).ext), (bV (e).same), (iV (e).src), (iV (e).dst), (iV (e).fence)], .row 23 6 N (fun i => eV (g i)), .row 3 1 3 h]⟩
def en10_2a (e : E6) (A : Int) (N : Nat) (g : Nat → E6) (h : Nat → V) (last : Int) (t : Bool) (i : Nat) : Ex × St := (.ex 2, ⟨[.und, .ptr 0 0, bV false, iV A, .ref 1, .und, .und, bV t, .und, .und, .und, .und, .und, .und, .und, .und, .und, .und, .und, .und, .und, .und, .und, .und, .und, .und, .und, .und, .und, .und, .und, .und, .und, .und, .und, .und, .und, .und, .und, .und, .und, .und, .und, .und, .und, .und, .und, .und, .und, .und, .und, .und, .und, .und, .und, .und, .und, .und, .und, .und, .und, .und, .und, .und, .und, .und, .und, .und, .und, .und, .und, .und, .und, .und, .und, .und, .und, .und, .und, .und, .und, .und, .und, .und, .und, .und, .und, .und, .und, .und, .und, .und, .und, .und, .und, .und, .und, .und, .und, .und, .und], [.cells [(iV (e).kind), (bV (e).ext), (bV (e).same), (iV (e).src), (iV (e).dst), (iV (e).fence)], .row 23 6 N (fun i => eV (g i))]⟩)
noncomputable def body10_2 (L : Nat → (St → T (Ex × St)) → St → T (Ex × St)) : St → T (Ex × St) := fun st => evalC tab ⟨callT tb10, L, Gl⟩ (loopBody Tryd.f10 2) 2 st
theorem round10_2a_p (L : Nat → (St → T (Ex × St)) → St → T (Ex × St)) (e : E6) (A : Int) (N : Nat) (g : Nat → E6) (h : Nat → V) (last : Int) (t : Bool) (i : Nat)  (j : Nat → V) : ((body10_2 L (st10_2 e A N g h last t i j)).bind fun r => T.leaf (cutR (lp10_2 e) r)).path [false] = some ([(ilt (Int.ofNat i) (Int.ofNat N))], ((.ex 2), ⟨[.und, (.ptr 0 0), (bV Bool.false), (iV A), (.ref 1), .und, .und, (bV t), .und, .und, .und, .und, .und, .und, .und, .und, .und, .und, .und, .und, .und, .und, .und, .und, .und, .und, .und, .und, .und, .und, .und, .und, .und, .und, .und, .und, .und, .und, .und, .und, .und, .und, .und, .und, .und, .und, .und, .und, .und, .und, .und, .und, .und, .und, .und, .und, .und, .und, .und, .und, .und, .und, .und, .und, .und, .und, .und, .und, .und, .und, .und, .und, .und, .und, .und, .und, .und, .und, .und, .und, .und, .und, .und, .und, .und, .und, .und, .und, .und, .und, .und, .und, .und, .und, .und, .und, .und, .und, .und, .und, .und], [(.cells [(iV (e).kind), (bV (e).ext), (bV (e).same), (iV (e).src), (iV (e).dst), (iV (e).fence)]), (.row 23 6 N (fun i => (eV (g i))))]⟩)) := by kernel_rfl
theorem round10_2a (L : Nat → (St → T (Ex × St)) → St → T (Ex × St)) (e : E6) (A : Int) (N : Nat) (g : Nat → E6) (h : Nat → V) (last : Int) (t : Bool) (i : Nat)  (j : Nat → V) (h0 : ilt (Int.ofNat i) (Int.ofNat N) = false) : ((body10_2 L (st10_2 e A N g h last t i j)).bind fun r => T.leaf (cutR (lp10_2 e) r)).sem = some ((.ex 2), ⟨[.und, (.ptr 0 0), (bV Bool.false), (iV A), (.ref 1), .und, .und, (bV t), .und, .und, .und, .und, .und, .und, .und, .und, .und, .und, .und, .und, .und, .und, .und, .und, .und, .und, .und, .und, .und, .und, .und, .und, .und, .und, .und, .und, .und, .und, .und, .und, .und, .und, .und, .und, .und, .und, .und, .und, .und, .und, .und, .und, .und, .und, .und, .und, .und, .und, .und, .und, .und, .und, .und, .und, .und, .und, .und, .und, .und, .und, .und, .und, .und, .und, .und, .und, .und, .und, .und, .und, .und, .und, .und, .und, .und, .und, .und, .und, .und, .und, .und, .und, .und, .und, .und, .und, .und, .und, .und, .und, .und], [(.cells [(iV (e).kind), (bV (e).ext), (bV (e).same), (iV (e).src), (iV (e).dst), (iV (e).fence)]), (.row 23 6 N (fun i => (eV (g i))))]⟩) := by
  exact sem_of_path (round10_2a_p L e A N g h last t i j) (by simp only [h0] <;> rfl)
theorem round10_2t_p (L : Nat → (St → T (Ex × St)) → St → T (Ex × St)) (e : E6) (A : Int) (N : Nat) (g : Nat → E6) (h : Nat → V) (last : Int) (t : Bool) (i : Nat)  (j : Nat → V) : ((body10_2 L (st10_2 e A N g h last t i j)).bind fun r => T.leaf (cutR (lp10_2 e) r)).path [true, true, true, false, false, false, false, false, true, true, true, true, true, true, true] = some ([(ilt (Int.ofNat i) (Int.ofNat N)), (band (ile 0 (Int.ofNat i)) (ilt (Int.ofNat i) (Int.ofNat N))), (nlt i N), (bnot (ieq (codeF (g i)) 0)), (bnot (ieq (codeF (g i)) 0)), (bnot (ieq (codeF (g i)) 0)), (bnot (ieq (codeF (g i)) 0)), (ile (codeN (g i)) last), t, t, t, t, t, t, t], (.nm, ⟨[.und, (.ptr 0 0), (bV Bool.false), (iV A), (.ref 1), .und, (iV (codeN (g i))), (bV Bool.true), (iV (wr IntKind.i64 (iadd (Int.ofNat i) 1))), .und, .und, .und, .und, .und, .und, .und, .und, .und, .und, .und, .und, .und, .und, .und, .und, .und, .und, .und, .und, .und, .und, .und, .und, .und, .und, .und, .und, .und, .und, .und, .und, .und, .und, .und, .und, .und, .und, .und, .und, .und, .und, .und, .und, .und, .und, .und, .und, .und, .und, .und, .und, .und, .und, .und, .und, .und, .und, .und, .und, .und, .und, .und, .und, .und, .und, .und, .und, .und, .und, .und, .und, .und, .und, .und, .und, .und, .und, .und, .und, .und, .und, .und, .und, .und, .und, .und, .und, .und, .und, .und, .und], [(.cells [(iV (e).kind), (bV (e).ext), (bV (e).same), (iV (e).src), (iV (e).dst), (iV (e).fence)]), (.row 23 6 N (fun i => (eV (g i)))), (.row 3 1 3 h)]⟩)) := by kernel_rfl
theorem round10_2t (L : Nat → (St → T (Ex × St)) → St → T (Ex × St)) (e : E6) (A : Int) (N : Nat) (g : Nat → E6) (h : Nat → V) (last : Int) (t : Bool) (i : Nat)  (j : Nat → V) (h0 : ilt (Int.ofNat i) (Int.ofNat N) = true) (h1 : band (ile 0 (Int.ofNat i)) (ilt (Int.ofNat i) (Int.ofNat N)) = true) (h2 : nlt i N = true) (h3 : ieq (codeF (g i)) 0 = true) (h4 : ile (codeN (g i)) last = false) (h5 : t = true) : ((body10_2 L (st10_2 e A N g h last t i j)).bind fun r => T.leaf (cutR (lp10_2 e) r)).sem = some (.nm, ⟨[.und, (.ptr 0 0), (bV Bool.false), (iV A), (.ref 1), .und, (iV (codeN (g i))), (bV Bool.true), (iV (wr IntKind.i64 (iadd (Int.ofNat i) 1))), .und, .und, .und, .und, .und, .und, .und, .und, .und, .und, .und, .und, .und, .und, .und, .und, .und, .und, .und, .und, .und, .und, .und, .und, .und, .und, .und, .und, .und, .und, .und, .und, .und, .und, .und, .und, .und, .und, .und, .und, .und, .und, .und, .und, .und, .und, .und, .und, .und, .und, .und, .und, .und, .und, .und, .und, .und, .und, .und, .und, .und, .und, .und, .und, .und, .und, .und, .und, .und, .und, .und, .und, .und, .und, .und, .und, .und, .und, .und, .und, .und, .und, .und, .und, .und, .und, .und, .und, .und, .und, .und, .und], [(.cells [(iV (e).kind), (bV (e).ext), (bV (e).same), (iV (e).src), (iV (e).dst), (iV (e).fence)]), (.row 23 6 N (fun i => (eV (g i)))), (.row 3 1 3 h)]⟩) := by
  subst h5; exact sem_of_path (round10_2t_p L e A N g h last true i j) (by simp only [h0, h1, h2, h3, h4] <;> rfl)
theorem round10_2f_p (L : Nat → (St → T (Ex × St)) → St → T (Ex × St)) (e : E6) (A : Int) (N : Nat) (g : Nat → E6) (h : Nat → V) (last : Int) (t : Bool) (i : Nat)  (j : Nat → V) : ((body10_2 L (st10_2 e A N g h last t i j)).bind fun r => T.leaf (cutR (lp10_2 e) r)).path [true, true, true, false, false, false, false, false, false, false, false, true, false, true, false, false, false] = some ([(ilt (Int.ofNat i) (Int.ofNat N)), (band (ile 0 (Int.ofNat i)) (ilt (Int.ofNat i) (Int.ofNat N))), (nlt i N), (bnot (ieq (codeF (g i)) 0)), (bnot (ieq (codeF (g i)) 0)), (bnot (ieq (codeF (g i)) 0)), (bnot (ieq (codeF (g i)) 0)), (ile (codeN (g i)) last), t, t, t, (band (ile 0 (Int.ofNat i)) (ilt (Int.ofNat i) (Int.ofNat N))), t, (nlt i N), t, t, t], (.nm, ⟨[.und, (.ptr 0 0), (bV Bool.false), (iV A), (.ref 1), .und, (iV (codeN (g i))), (bV (eqE (g i) e)), (iV (wr IntKind.i64 (iadd (Int.ofNat i) 1))), .und, .und, .und, .und, .und, .und, .und, .und, .und, .und, .und, .und, .und, .und, .und, .und, .und, .und, .und, .und, .und, .und, .und, .und, .und, .und, .und, .und, .und, .und, .und, .und, .und, .und, .und, .und, .und, .und, .und, .und, .und, .und, .und, .und, .und, .und, .und, .und, .und, .und, .und, .und, .und, .und, .und, .und, .und, .und, .und, .und, .und, .und, .und, .und, .und, .und, .und, .und, .und, .und, .und, .und, .und, .und, .und, .und, .und, .und, .und, .und, .und, .und, .und, .und, .und, .und, .und, .und, .und, .und, .und, .und], [(.cells [(iV (e).kind), (bV (e).ext), (bV (e).same), (iV (e).src), (iV (e).dst), (iV (e).fence)]), (.row 23 6 N (fun i => (eV (g i)))), (.row 3 1 3 h)]⟩)) := by kernel_rfl
theorem round10_2f (L : Nat → (St → T (Ex × St)) → St → T (Ex × St)) (e : E6) (A : Int) (N : Nat) (g : Nat → E6) (h : Nat → V) (last : Int) (t : Bool) (i : Nat)  (j : Nat → V) (h0 : ilt (Int.ofNat i) (Int.ofNat N) = true) (h1 : band (ile 0 (Int.ofNat i)) (ilt (Int.ofNat i) (Int.ofNat N)) = true) (h2 : nlt i N = true) (h3 : ieq (codeF (g i)) 0 = true) (h4 : ile (codeN (g i)) last = false) (h5 : t = false) : ((body10_2 L (st10_2 e A N g h last t i j)).bind fun r => T.leaf (cutR (lp10_2 e) r)).sem = some (.nm, ⟨[.und, (.ptr 0 0), (bV Bool.false), (iV A), (.ref 1), .und, (iV (codeN (g i))), (bV (eqE (g i) e)), (iV (wr IntKind.i64 (iadd (Int.ofNat i) 1))), .und, .und, .und, .und, .und, .und, .und, .und, .und, .und, .und, .und, .und, .und, .und, .und, .und, .und, .und, .und, .und, .und, .und, .und, .und, .und, .und, .und, .und, .und, .und, .und, .und, .und, .und, .und, .und, .und, .und, .und, .und, .und, .und, .und, .und, .und, .und, .und, .und, .und, .und, .und, .und, .und, .und, .und, .und, .und, .und, .und, .und, .und, .und, .und, .und, .und, .und, .und, .und, .und, .und, .und, .und, .und, .und, .und, .und, .und, .und, .und, .und, .und, .und, .und, .und, .und, .und, .und, .und, .und, .und, .und], [(.cells [(iV (e).kind), (bV (e).ext), (bV (e).same), (iV (e).src), (iV (e).dst), (iV (e).fence)]), (.row 23 6 N (fun i => (eV (g i)))), (.row 3 1 3 h)]⟩) := by
  subst h5; exact sem_of_path (round10_2f_p L e A N g h last false i j) (by simp only [h0, h1, h2, h3, h4] <;> rfl)

def lp10_4 (e : E6) : Lp := ⟨[false, true, true, true, true, false, false, false, false, false, false, false, false, true, false, false, false, false, false, false, false, false, false, false, false, false, false, false, false, false, false, false, false, false, false, false, false, false, false, false, false, false, false, false, false, false, false, false, false, false, false, false, false, false, false, false, false, false, false, false, false, false, false, false, false, false, false, false, false, false, false, false, false, false, false, false, false, false, false, false, false, false, false, false, false, false, false, false, false, false, false, false, false, false, false, false, false, false, false, false, false], 2, [false, true, true, true, false, false, false, false, false, false, false, false, false, false, false, false, false, false, false, false, false, false, false, false, false, false, false, false, false, false, false, false, false, false, false, false, false, false, false, false, false, false, false, false, false, false, false, false, false, false, false, false, false, false, false, false, false, false, false, false, false, false, false, false, false, false, false, false, false, false, false, false, false, false, false, false, false, false, false, false, false, false, false, false, false, false, false, false, false, false, false, false, false, false, false, false, false, false, false, false, false], 1, 105⟩
def st10_4 (e : E6) (A : Int) (N : Nat) (g : Nat → E6) (i : Nat) (j : Nat → V) : St := ⟨[j 0, .ptr 0 0, bV false, iV A, .ref 1, j 5, j 6, j 7, j 8, j 9, j 10, j 11, j 12, iV (Int.ofNat i), j 14, j 15, j 16, j 17, j 18, j 19, j 20, j 21, j 22, j 23, j 24, j 25, j 26, j 27, j 28, j 29, j 30, j 31, j 32, j 33, j 34, j 35, j 36, j 37, j 38, j 39, j 40, j 41, j 42, j 43, j 44, j 45, j 46, j 47, j 48, j 49, j 50, j 51, j 52, j 53, j 54, j 55, j 56, j 57, j 58, j 59, j 60, j 61, j 62, j 63, j 64, j 65, j 66, j 67, j 68, j 69, j 70, j 71, j 72, j 73, j 74, j 75, j 76, j 77, j 78, j 79, j 80, j 81, j 82, j 83, j 84, j 85, j 86, j 87, j 88, j 89, j 90, j 91, j 92, j 93, j 94, j 95, j 96, j 97, j 98, j 99, j 100], [.cells [(iV (e).kind), (bV (e).ext), (bV (e).same), (iV (e).src), (iV (e).dst), (iV (e).fence)], .row 23 6 N (fun i => eV (g i))]⟩
def en10_4a (e : E6) (A : Int) (N : Nat) (g : Nat → E6) (i : Nat) : Ex × St := (.ex 4, ⟨[.und, .ptr 0 0, bV false, iV A, .und, .und, .und, .und, .und, .und, .und, .und, .und, .und, .und, .und, .und, .und, .und, .und, .und, .und, .und, .und, .und, .und, .und, .und, .und, .und, .und, .und, .und, .und, .und, .und, .und, .und, .und, .und, .und, .und, .und, .und, .und, .und, .und, .und, .und, .und, .und, .und, .und, .und, .und, .und, .und, .und, .und, .und, .und, .und, .und, .und, .und, .und, .und, .und, .und, .und, .und, .und, .und, .und, .und, .und, .und, .und, .und, .und, .und, .und, .und, .und, .und, .und, .und, .und, .und, .und, .und, .und, .und, .und, .und, .und, .und, .und, .und, .und, .und], [.cells [(iV (e).kind), (bV (e).ext), (bV (e).same), (iV (e).src), (iV (e).dst), (iV (e).fence)]]⟩)
noncomputable def body10_4 (L : Nat → (St → T (Ex × St)) → St → T (Ex × St)) : St → T (Ex × St) := fun st => evalC tab ⟨callT tb10, L, Gl⟩ (loopBody Tryd.f10 4) 4 st
theorem round10_4a_p (L : Nat → (St → T (Ex × St)) → St → T (Ex × St)) (e : E6) (A : Int) (N : Nat) (g : Nat → E6) (i : Nat)  (j : Nat → V) : ((body10_4 L (st10_4 e A N g i j)).bind fun r => T.leaf (cutR (lp10_4 e) r)).path [false] = some ([(ilt (Int.ofNat i) (Int.ofNat N))], ((.ex 4), ⟨[.und, (.ptr 0 0), (bV Bool.false), (iV A), .und, .und, .und, .und, .und, .und, .und, .und, .und, .und, .und, .und, .und, .und, .und, .und, .und, .und, .und, .und, .und, .und, .und, .und, .und, .und, .und, .und, .und, .und, .und, .und, .und, .und, .und, .und, .und, .und, .und, .und, .und, .und, .und, .und, .und, .und, .und, .und, .und, .und, .und, .und, .und, .und, .und, .und, .und, .und, .und, .und, .und, .und, .und, .und, .und, .und, .und, .und, .und, .und, .und, .und, .und, .und, .und, .und, .und, .und, .und, .und, .und, .und, .und, .und, .und, .und, .und, .und, .und, .und, .und, .und, .und, .und, .und, .und, .und], [(.cells [(iV (e).kind), (bV (e).ext), (bV (e).same), (iV (e).src), (iV (e).dst), (iV (e).fence)])]⟩)) := by kernel_rfl
theorem round10_4a (L : Nat → (St → T (Ex × St)) → St → T (Ex × St)) (e : E6) (A : Int) (N : Nat) (g : Nat → E6) (i : Nat)  (j : Nat → V) (h0 : ilt (Int.ofNat i) (Int.ofNat N) = false) : ((body10_4 L (st10_4 e A N g i j)).bind fun r => T.leaf (cutR (lp10_4 e) r)).sem = some ((.ex 4), ⟨[.und, (.ptr 0 0), (bV Bool.false), (iV A), .und, .und, .und, .und, .und, .und, .und, .und, .und, .und, .und, .und, .und, .und, .und, .und, .und, .und, .und, .und, .und, .und, .und, .und, .und, .und, .und, .und, .und, .und, .und, .und, .und, .und, .und, .und, .und, .und, .und, .und, .und, .und, .und, .und, .und, .und, .und, .und, .und, .und, .und, .und, .und, .und, .und, .und, .und, .und, .und, .und, .und, .und, .und, .und, .und, .und, .und, .und, .und, .und, .und, .und, .und, .und, .und, .und, .und, .und, .und, .und, .und, .und, .und, .und, .und, .und, .und, .und, .und, .und, .und, .und, .und, .und, .und, .und, .und], [(.cells [(iV (e).kind), (bV (e).ext), (bV (e).same), (iV (e).src), (iV (e).dst), (iV (e).fence)])]⟩) := by
  exact sem_of_path (round10_4a_p L e A N g i j) (by simp only [h0] <;> rfl)
theorem round10_4n_p (L : Nat → (St → T (Ex × St)) → St → T (Ex × St)) (e : E6) (A : Int) (N : Nat) (g : Nat → E6) (i : Nat)  (j : Nat → V) : ((body10_4 L (st10_4 e A N g i j)).bind fun r => T.leaf (cutR (lp10_4 e) r)).path [true, true, true] = some ([(ilt (Int.ofNat i) (Int.ofNat N)), (band (ile 0 (Int.ofNat i)) (ilt (Int.ofNat i) (Int.ofNat N))), (nlt i N)], (.nm, ⟨[.und, (.ptr 0 0), (bV Bool.false), (iV A), (.ref 1), .und, .und, .und, .und, .und, .und, .und, .und, (iV (wr IntKind.i64 (iadd (Int.ofNat i) 1))), .und, .und, .und, .und, .und, .und, .und, .und, .und, .und, .und, .und, .und, .und, .und, .und, .und, .und, .und, .und, .und, .und, .und, .und, .und, .und, .und, .und, .und, .und, .und, .und, .und, .und, .und, .und, .und, .und, .und, .und, .und, .und, .und, .und, .und, .und, .und, .und, .und, .und, .und, .und, .und, .und, .und, .und, .und, .und, .und, .und, .und, .und, .und, .und, .und, .und, .und, .und, .und, .und, .und, .und, .und, .und, .und, .und, .und, .und, .und, .und, .und, .und, .und, .und, .und, .und, .und], [(.cells [(iV (e).kind), (bV (e).ext), (bV (e).same), (iV (e).src), (iV (e).dst), (iV (e).fence)]), (.row 23 6 N (setGet (fun i => (eV (g i))) i (.agg [(iV 77), (bV Bool.false), (bV Bool.false), (iV 0), (iV 0), (iV 0)])))]⟩)) := by kernel_rfl
theorem round10_4n (L : Nat → (St → T (Ex × St)) → St → T (Ex × St)) (e : E6) (A : Int) (N : Nat) (g : Nat → E6) (i : Nat)  (j : Nat → V) (h0 : ilt (Int.ofNat i) (Int.ofNat N) = true) (h1 : band (ile 0 (Int.ofNat i)) (ilt (Int.ofNat i) (Int.ofNat N)) = true) (h2 : nlt i N = true) : ((body10_4 L (st10_4 e A N g i j)).bind fun r => T.leaf (cutR (lp10_4 e) r)).sem = some (.nm, ⟨[.und, (.ptr 0 0), (bV Bool.false), (iV A), (.ref 1), .und, .und, .und, .und, .und, .und, .und, .und, (iV (wr IntKind.i64 (iadd (Int.ofNat i) 1))), .und, .und, .und, .und, .und, .und, .und, .und, .und, .und, .und, .und, .und, .und, .und, .und, .und, .und, .und, .und, .und, .und, .und, .und, .und, .und, .und, .und, .und, .und, .und, .und, .und, .und, .und, .und, .und, .und, .und, .und, .und, .und, .und, .und, .und, .und, .und, .und, .und, .und, .und, .und, .und, .und, .und, .und, .und, .und, .und, .und, .und, .und, .und, .und, .und, .und, .und, .und, .und, .und, .und, .und, .und, .und, .und, .und, .und, .und, .und, .und, .und, .und, .und, .und, .und, .und, .und], [(.cells [(iV (e).kind), (bV (e).ext), (bV (e).same), (iV (e).src), (iV (e).dst), (iV (e).fence)]), (.row 23 6 N (setGet (fun i => (eV (g i))) i (.agg [(iV 77), (bV Bool.false), (bV Bool.false), (iV 0), (iV 0), (iV 0)])))]⟩) := by
  exact sem_of_path (round10_4n_p L e A N g i j) (by simp only [h0, h1, h2] <;> rfl)

def lp10 (e : E6) : Lp := ⟨[false, true, true, true, false, false, false, false, false, false, false, false, false, false, false, false, false, false, false, false, false, false, false, false, false, false, false, false, false, false, false, false, false, false, false, false, false, false, false, false, false, false, false, false, false, false, false, false, false, false, false, false, false, false, false, false, false, false, false, false, false, false, false, false, false, false, false, false, false, false, false, false, false, false, false, false, false, false, false, false, false, false, false, false, false, false, false, false, false, false, false, false, false, false, false, false, false, false, false, false, false], 1, [false, true, true, true, false, false, false, false, false, false, false, false, false, false, false, false, false, false, false, false, false, false, false, false, false, false, false, false, false, false, false, false, false, false, false, false, false, false, false, false, false, false, false, false, false, false, false, false, false, false, false, false, false, false, false, false, false, false, false, false, false, false, false, false, false, false, false, false, false, false, false, false, false, false, false, false, false, false, false, false, false, false, false, false, false, false, false, false, false, false, false, false, false, false, false, false, false, false, false, false, false], 1, 3⟩
def st10 (e : E6) (A : Int) (j : Nat → V) : St := ⟨[j 0, .ptr 0 0, bV false, iV A, j 4, j 5, j 6, j 7, j 8, j 9, j 10, j 11, j 12, j 13, j 14, j 15, j 16, j 17, j 18, j 19, j 20, j 21, j 22, j 23, j 24, j 25, j 26, j 27, j 28, j 29, j 30, j 31, j 32, j 33, j 34, j 35, j 36, j 37, j 38, j 39, j 40, j 41, j 42, j 43, j 44, j 45, j 46, j 47, j 48, j 49, j 50, j 51, j 52, j 53, j 54, j 55, j 56, j 57, j 58, j 59, j 60, j 61, j 62, j 63, j 64, j 65, j 66, j 67, j 68, j 69, j 70, j 71, j 72, j 73, j 74, j 75, j 76, j 77, j 78, j 79, j 80, j 81, j 82, j 83, j 84, j 85, j 86, j 87, j 88, j 89, j 90, j 91, j 92, j 93, j 94, j 95, j 96, j 97, j 98, j 99, j 100], [.cells [(iV (e).kind), (bV (e).ext), (bV (e).same), (iV (e).src), (iV (e).dst), (iV (e).fence)]]⟩
def en10a (e : E6) (A : Int) : Ex × St := (.ex 0, ⟨[.und, .ptr 0 0, bV false, iV A, .und, .und, .und, .und, .und, .und, .und, .und, .und, .und, .und, .und, .und, .und, .und, .und, .und, .und, .und, .und, .und, .und, .und, .und, .und, .und, .und, .und, .und, .und, .und, .und, .und, .und, .und, .und, .und, .und, .und, .und, .und, .und, .und, .und, .und, .und, .und, .und, .und, .und, .und, .und, .und, .und, .und, .und, .und, .und, .und, .und, .und, .und, .und, .und, .und, .und, .und, .und, .und, .und, .und, .und, .und, .und, .und, .und, .und, .und, .und, .und, .und, .und, .und, .und, .und, .und, .und, .und, .und, .und, .und, .und, .und, .und, .und, .und, .und], [.cells [(iV (e).kind), (bV (e).ext), (bV (e).same), (iV (e).src), (iV (e).dst), (iV (e).fence)]]⟩)
noncomputable def body10 (L : Nat → (St → T (Ex × St)) → St → T (Ex × St)) : St → T (Ex × St) := fun st => evalC tab ⟨callT tb10, L, Gl⟩ (loopBody Tryd.f10 0) 0 st
theorem round10x_p (L : Nat → (St → T (Ex × St)) → St → T (Ex × St)) (e : E6) (A : Int)  (j : Nat → V) : ((body10 L (st10 e A j)).bind fun r => T.leaf (cutR (lp10 e) r)).path [false] = some ([(ile A 2)], ((.ex 0), ⟨[.und, (.ptr 0 0), (bV Bool.false), (iV A), .und, .und, .und, .und, .und, .und, .und, .und, .und, .und, .und, .und, .und, .und, .und, .und, .und, .und, .und, .und, .und, .und, .und, .und, .und, .und, .und, .und, .und, .und, .und, .und, .und, .und, .und, .und, .und, .und, .und, .und, .und, .und, .und, .und, .und, .und, .und, .und, .und, .und, .und, .und, .und, .und, .und, .und, .und, .und, .und, .und, .und, .und, .und, .und, .und, .und, .und, .und, .und, .und, .und, .und, .und, .und, .und, .und, .und, .und, .und, .und, .und, .und, .und, .und, .und, .und, .und, .und, .und, .und, .und, .und, .und, .und, .und, .und, .und], [(.cells [(iV (e).kind), (bV (e).ext), (bV (e).same), (iV (e).src), (iV (e).dst), (iV (e).fence)])]⟩)) := by kernel_rfl
theorem round10x (L : Nat → (St → T (Ex × St)) → St → T (Ex × St)) (e : E6) (A : Int)  (j : Nat → V) (h0 : ile A 2 = false) : ((body10 L (st10 e A j)).bind fun r => T.leaf (cutR (lp10 e) r)).sem = some ((.ex 0), ⟨[.und, (.ptr 0 0), (bV Bool.false), (iV A), .und, .und, .und, .und, .und, .und, .und, .und, .und, .und, .und, .und, .und, .und, .und, .und, .und, .und, .und, .und, .und, .und, .und, .und, .und, .und, .und, .und, .und, .und, .und, .und, .und, .und, .und, .und, .und, .und, .und, .und, .und, .und, .und, .und, .und, .und, .und, .und, .und, .und, .und, .und, .und, .und, .und, .und, .und, .und, .und, .und, .und, .und, .und, .und, .und, .und, .und, .und, .und, .und, .und, .und, .und, .und, .und, .und, .und, .und, .und, .und, .und, .und, .und, .und, .und, .und, .und, .und, .und, .und, .und, .und, .und, .und, .und, .und, .und], [(.cells [(iV (e).kind), (bV (e).ext), (bV (e).same), (iV (e).src), (iV (e).dst), (iV (e).fence)])]⟩) := by
  exact sem_of_path (round10x_p L e A j) (by simp only [h0] <;> rfl)
def jk10 (e : E6)  : Nat → V
  | 0 => (eV e)
  | _ => undefV

def jk2_1 (e : E6) (j : Nat → V) : Nat → V
  | 0 => (j 0)
  | 5 => (iV 0)
  | 9 => (j 9)
  | 10 => (j 10)
  | 11 => (j 11)
  | 12 => (j 12)
  | 13 => (j 13)
  | 14 => (iV 1)
  | 15 => (bV (ile 1 2))
  | 16 => (j 16)
  | 17 => (j 17)
  | 18 => (.tup [(.ref 1), (iV 0)])
  | 19 => (iV 1)
  | 20 => (.tup [(.ref 1), (iV 0)])
  | 21 => (.ref 1)
  | 22 => (iV 0)
  | 23 => (iV 0)
  | 24 => (bV (bnot (ieq 0 0)))
  | 25 => (bV (bnot (ieq 0 0)))
  | 26 => (.ref 1)
  | 27 => (iV 22)
  | 28 => (.ref 2)
  | 29 => (iV 1)
  | 30 => (.ept 2 1 1 0)
  | 31 => (iV 22)
  | 32 => (bV (bnot (ieq 22 22)))
  | 33 => (bV (bnot (ieq 22 22)))
  | 34 => (j 34)
  | 35 => (j 35)
  | 36 => (j 36)
  | 37 => (j 37)
  | 38 => (j 38)
  | 39 => (j 39)
  | 40 => (j 40)
  | 41 => (j 41)
  | 42 => (j 42)
  | 43 => (j 43)
  | 44 => (j 44)
  | 45 => (j 45)
  | 46 => (j 46)
  | 47 => (j 47)
  | 48 => (j 48)
  | 49 => (j 49)
  | 50 => (j 50)
  | 51 => (j 51)
  | 52 => (j 52)
  | 53 => (j 53)
  | 54 => (j 54)
  | 55 => (j 55)
  | 56 => (j 56)
  | 57 => (j 57)
  | 58 => (j 58)
  | 59 => (j 59)
  | 60 => (j 60)
  | 61 => (j 61)
  | 62 => (j 62)
  | 63 => (j 63)
  | 64 => (j 64)
  | 65 => (j 65)
  | 66 => (j 66)
  | 67 => (j 67)
  | 68 => (j 68)
  | 69 => (j 69)
  | 70 => (j 70)
  | 71 => (j 71)
  | 72 => (j 72)
  | 73 => (j 73)
  | 74 => (j 74)
  | 75 => (j 75)
  | 76 => (j 76)
  | 77 => (j 77)
  | 78 => (j 78)
  | 79 => (j 79)
  | 80 => (j 80)
  | 81 => (j 81)
  | 82 => (j 82)
  | 83 => (j 83)
  | 84 => (j 84)
  | 85 => (j 85)
  | 86 => (j 86)
  | 87 => (j 87)
  | 88 => (j 88)
  | 89 => (j 89)
  | 90 => (j 90)
  | 91 => (j 91)
  | 92 => (j 92)
  | 93 => (j 93)
  | 94 => (j 94)
  | 95 => (j 95)
  | 96 => (j 96)
  | 97 => (j 97)
  | 98 => (j 98)
  | 99 => (j 99)
  | 100 => (j 100)
  | _ => undefV

def jk4k_1 (e : E6) (t : Bool) (j : Nat → V) : Nat → V
  | 0 => .und
  | 5 => .und
  | 6 => .und
  | 7 => (bV t)
  | 8 => .und
  | 9 => .und
  | 10 => .und
  | 11 => (bV (legR 1 e))
  | 12 => (iV (legF 1 e))
  | 14 => .und
  | 15 => .und
  | 16 => .und
  | 17 => .und
  | 18 => .und
  | 19 => .und
  | 20 => .und
  | 21 => .und
  | 22 => .und
  | 23 => .und
  | 24 => .und
  | 25 => .und
  | 26 => .und
  | 27 => .und
  | 28 => .und
  | 29 => .und
  | 30 => .und
  | 31 => .und
  | 32 => .und
  | 33 => .und
  | 34 => .und
  | 35 => .und
  | 36 => .und
  | 37 => .und
  | 38 => .und
  | 39 => .und
  | 40 => .und
  | 41 => .und
  | 42 => .und
  | 43 => .und
  | 44 => .und
  | 45 => .und
  | 46 => .und
  | 47 => .und
  | 48 => .und
  | 49 => .und
  | 50 => .und
  | 51 => .und
  | 52 => .und
  | 53 => .und
  | 54 => .und
  | 55 => .und
  | 56 => .und
  | 57 => .und
  | 58 => .und
  | 59 => .und
  | 60 => .und
  | 61 => .und
  | 62 => .und
  | 63 => .und
  | 64 => .und
  | 65 => (.tup [(bV (legR 1 e)), (iV (legF 1 e))])
  | 66 => (iV 1)
  | 67 => (eV e)
  | 68 => (.tup [(bV (legR 1 e)), (iV (legF 1 e))])
  | 69 => (bV (legR 1 e))
  | 70 => (iV (legF 1 e))
  | 71 => (iV (legF 1 e))
  | 72 => (bV (ieq (legF 1 e) 0))
  | 73 => (bV (ieq (legF 1 e) 0))
  | 74 => (bV (legR 1 e))
  | 75 => (bV t)
  | 76 => (bV (bnot (beqB (legR 1 e) t)))
  | 77 => (bV (bnot (beqB (legR 1 e) t)))
  | 78 => (bV (bnot (beqB (legR 1 e) t)))
  | 79 => (iV (legF 1 e))
  | 80 => (bV (bnot (ieq (legF 1 e) 0)))
  | 81 => (bV (bnot (ieq (legF 1 e) 0)))
  | 88 => (bV Bool.false)
  | 89 => (bV Bool.false)
  | 90 => .und
  | 91 => .und
  | 92 => .und
  | 93 => .und
  | 94 => .und
  | 95 => .und
  | 96 => .und
  | 97 => .und
  | 98 => .und
  | 99 => .und
  | 100 => .und
  | _ => undefV

def jk4n_1 (e : E6) (t : Bool) (j : Nat → V) : Nat → V
  | 0 => .und
  | 5 => .und
  | 6 => .und
  | 7 => (bV t)
  | 8 => .und
  | 9 => .und
  | 10 => .und
  | 11 => (bV (legR 1 e))
  | 12 => (iV (legF 1 e))
  | 14 => .und
  | 15 => .und
  | 16 => .und
  | 17 => .und
  | 18 => .und
  | 19 => .und
  | 20 => .und
  | 21 => .und
  | 22 => .und
  | 23 => .und
  | 24 => .und
  | 25 => .und
  | 26 => .und
  | 27 => .und
  | 28 => .und
  | 29 => .und
  | 30 => .und
  | 31 => .und
  | 32 => .und
  | 33 => .und
  | 34 => .und
  | 35 => .und
  | 36 => .und
  | 37 => .und
  | 38 => .und
  | 39 => .und
  | 40 => .und
  | 41 => .und
  | 42 => .und
  | 43 => .und
  | 44 => .und
  | 45 => .und
  | 46 => .und
  | 47 => .und
  | 48 => .und
  | 49 => .und
  | 50 => .und
  | 51 => .und
  | 52 => .und
  | 53 => .und
  | 54 => .und
  | 55 => .und
  | 56 => .und
  | 57 => .und
  | 58 => .und
  | 59 => .und
  | 60 => .und
  | 61 => .und
  | 62 => .und
  | 63 => .und
  | 64 => .und
  | 65 => (.tup [(bV (legR 1 e)), (iV (legF 1 e))])
  | 66 => (iV 1)
  | 67 => (eV e)
  | 68 => (.tup [(bV (legR 1 e)), (iV (legF 1 e))])
  | 69 => (bV (legR 1 e))
  | 70 => (iV (legF 1 e))
  | 71 => (iV (legF 1 e))
  | 72 => (bV (ieq (legF 1 e) 0))
  | 73 => (bV (ieq (legF 1 e) 0))
  | 77 => (bV Bool.false)
  | 78 => (bV Bool.false)
  | 79 => (iV (legF 1 e))
  | 80 => (bV (bnot (ieq (legF 1 e) 0)))
  | 81 => (bV (bnot (ieq (legF 1 e) 0)))
  | 82 => (bV t)
  | 83 => (bV t)
  | 84 => (eV e)
  | 85 => (iV (codeF e))
  | 86 => (bV (ieq (codeF e) 0))
  | 87 => (bV (ieq (codeF e) 0))
  | 88 => (bV (ieq (codeF e) 0))
  | 89 => (bV (ieq (codeF e) 0))
  | 90 => .und
  | 91 => .und
  | 92 => .und
  | 93 => .und
  | 94 => .und
  | 95 => .und
  | 96 => .und
  | 97 => .und
  | 98 => .und
  | 99 => .und
  | 100 => .und
  | _ => undefV

theorem round10k_1_p (L : Nat → (St → T (Ex × St)) → St → T (Ex × St)) (p2 : (St → T (Ex × St)) → St → Bool) (p4 : (St → T (Ex × St)) → St → Bool) (e : E6) (t : Bool) (j : Nat → V) : ((body10 (onP 2 p2 (en10_2a e 1 22 (allE 1) T0 0 t 0) (onP 4 p4 (en10_4a e 1 22 (allE 1) 0) L)) (st10 e 1 j)).bind fun r => T.leaf (cutR (lp10 e) r)).path [true, true, false, false, false, false, false, true, false, true, false, false, false, true, true, true, true, true, false, false, false, false, false, false, false, false, false, false, true] = some ([(ile 1 2), (ieq 1 1), (bnot (ieq 0 0)), (bnot (ieq 0 0)), (bnot (ieq 0 0)), (bnot (ieq 0 0)), (bnot (ieq 0 0)), (band (ile 0 1) (ilt 1 3)), (bnot (ieq 0 0)), (nlt 1 3), (bnot (ieq 0 0)), (bnot (ieq 0 0)), (bnot (ieq 22 22)), (p2 (body10_2 (onP 2 p2 (en10_2a e 1 22 (allE 1) T0 0 t 0) (onP 4 p4 (en10_4a e 1 22 (allE 1) 0) L))) (st10_2 e 1 22 (allE 1) T0 (-1) Bool.false 0 (jk2_1 e j))), (ieq (legF 1 e) 0), (ieq (legF 1 e) 0), (ieq (legF 1 e) 0), (ieq (legF 1 e) 0), (bnot (beqB (legR 1 e) t)), (bnot (beqB (legR 1 e) t)), (bnot (beqB (legR 1 e) t)), (bnot (ieq (legF 1 e) 0)), (bnot (ieq (legF 1 e) 0)), (bnot (ieq (legF 1 e) 0)), (bnot (beqB (legR 1 e) t)), (bnot (ieq (legF 1 e) 0)), (bnot (beqB (legR 1 e) t)), Bool.false, (p4 (body10_4 (onP 2 p2 (en10_2a e 1 22 (allE 1) T0 0 t 0) (onP 4 p4 (en10_4a e 1 22 (allE 1) 0) L))) (st10_4 e 1 22 (allE 1) 0 (jk4k_1 e t j)))], (.nm, ⟨[.und, (.ptr 0 0), (bV Bool.false), (iV (wr IntKind.i64 (iadd 1 1))), .und, .und, .und, .und, .und, .und, .und, .und, .und, .und, .und, .und, .und, .und, .und, .und, .und, .und, .und, .und, .und, .und, .und, .und, .und, .und, .und, .und, .und, .und, .und, .und, .und, .und, .und, .und, .und, .und, .und, .und, .und, .und, .und, .und, .und, .und, .und, .und, .und, .und, .und, .und, .und, .und, .und, .und, .und, .und, .und, .und, .und, .und, .und, .und, .und, .und, .und, .und, .und, .und, .und, .und, .und, .und, .und, .und, .und, .und, .und, .und, .und, .und, .und, .und, .und, .und, .und, .und, .und, .und, .und, .und, .und, .und, .und, .und, .und], [(.cells [(iV (e).kind), (bV (e).ext), (bV (e).same), (iV (e).src), (iV (e).dst), (iV (e).fence)])]⟩)) := by kernel_rfl
theorem round10k_1 (L : Nat → (St → T (Ex × St)) → St → T (Ex × St)) (p2 : (St → T (Ex × St)) → St → Bool) (p4 : (St → T (Ex × St)) → St → Bool) (e : E6) (t : Bool) (j : Nat → V) (h0 : ieq (legF 1 e) 0 = true) (h1 : beqB (legR 1 e) t = true) (hp2 : p2 (body10_2 (onP 2 p2 (en10_2a e 1 22 (allE 1) T0 0 t 0) (onP 4 p4 (en10_4a e 1 22 (allE 1) 0) L))) (st10_2 e 1 22 (allE 1) T0 (-1) Bool.false 0 (jk2_1 e j)) = true) (hp4 : p4 (body10_4 (onP 2 p2 (en10_2a e 1 22 (allE 1) T0 0 t 0) (onP 4 p4 (en10_4a e 1 22 (allE 1) 0) L))) (st10_4 e 1 22 (allE 1) 0 (jk4k_1 e t j)) = true) : ((body10 (onP 2 p2 (en10_2a e 1 22 (allE 1) T0 0 t 0) (onP 4 p4 (en10_4a e 1 22 (allE 1) 0) L)) (st10 e 1 j)).bind fun r => T.leaf (cutR (lp10 e) r)).sem = some (.nm, ⟨[.und, (.ptr 0 0), (bV Bool.false), (iV (wr IntKind.i64 (iadd 1 1))), .und, .und, .und, .und, .und, .und, .und, .und, .und, .und, .und, .und, .und, .und, .und, .und, .und, .und, .und, .und, .und, .und, .und, .und, .und, .und, .und, .und, .und, .und, .und, .und, .und, .und, .und, .und, .und, .und, .und, .und, .und, .und, .und, .und, .und, .und, .und, .und, .und, .und, .und, .und, .und, .und, .und, .und, .und, .und, .und, .und, .und, .und, .und, .und, .und, .und, .und, .und, .und, .und, .und, .und, .und, .und, .und, .und, .und, .und, .und, .und, .und, .und, .und, .und, .und, .und, .und, .und, .und, .und, .und, .und, .und, .und, .und, .und, .und], [(.cells [(iV (e).kind), (bV (e).ext), (bV (e).same), (iV (e).src), (iV (e).dst), (iV (e).fence)])]⟩) := by
  exact sem_of_path (round10k_1_p L p2 p4 e t j) (by simp only [h0, h1, hp2, hp4] <;> rfl)

theorem round10n_1_p (L : Nat → (St → T (Ex × St)) → St → T (Ex × St)) (p2 : (St → T (Ex × St)) → St → Bool) (p4 : (St → T (Ex × St)) → St → Bool) (e : E6) (t : Bool) (j : Nat → V) : ((body10 (onP 2 p2 (en10_2a e 1 22 (allE 1) T0 0 t 0) (onP 4 p4 (en10_4a e 1 22 (allE 1) 0) L)) (st10 e 1 j)).bind fun r => T.leaf (cutR (lp10 e) r)).path [true, true, false, false, false, false, false, true, false, true, false, false, false, true, false, false, false, false, false, false, false, true, true, false, false, false, true, false, false, true, false, false, true] = some ([(ile 1 2), (ieq 1 1), (bnot (ieq 0 0)), (bnot (ieq 0 0)), (bnot (ieq 0 0)), (bnot (ieq 0 0)), (bnot (ieq 0 0)), (band (ile 0 1) (ilt 1 3)), (bnot (ieq 0 0)), (nlt 1 3), (bnot (ieq 0 0)), (bnot (ieq 0 0)), (bnot (ieq 22 22)), (p2 (body10_2 (onP 2 p2 (en10_2a e 1 22 (allE 1) T0 0 t 0) (onP 4 p4 (en10_4a e 1 22 (allE 1) 0) L))) (st10_2 e 1 22 (allE 1) T0 (-1) Bool.false 0 (jk2_1 e j))), (ieq (legF 1 e) 0), (ieq (legF 1 e) 0), (ieq (legF 1 e) 0), (ieq (legF 1 e) 0), Bool.false, Bool.false, Bool.false, (bnot (ieq (legF 1 e) 0)), (bnot (ieq (legF 1 e) 0)), t, t, t, (bnot (ieq (legF 1 e) 0)), t, Bool.false, (bnot (ieq (legF 1 e) 0)), Bool.false, (ieq (codeF e) 0), (p4 (body10_4 (onP 2 p2 (en10_2a e 1 22 (allE 1) T0 0 t 0) (onP 4 p4 (en10_4a e 1 22 (allE 1) 0) L))) (st10_4 e 1 22 (allE 1) 0 (jk4n_1 e t j)))], (.nm, ⟨[.und, (.ptr 0 0), (bV Bool.false), (iV (wr IntKind.i64 (iadd 1 1))), .und, .und, .und, .und, .und, .und, .und, .und, .und, .und, .und, .und, .und, .und, .und, .und, .und, .und, .und, .und, .und, .und, .und, .und, .und, .und, .und, .und, .und, .und, .und, .und, .und, .und, .und, .und, .und, .und, .und, .und, .und, .und, .und, .und, .und, .und, .und, .und, .und, .und, .und, .und, .und, .und, .und, .und, .und, .und, .und, .und, .und, .und, .und, .und, .und, .und, .und, .und, .und, .und, .und, .und, .und, .und, .und, .und, .und, .und, .und, .und, .und, .und, .und, .und, .und, .und, .und, .und, .und, .und, .und, .und, .und, .und, .und, .und, .und], [(.cells [(iV (e).kind), (bV (e).ext), (bV (e).same), (iV (e).src), (iV (e).dst), (iV (e).fence)])]⟩)) := by kernel_rfl
theorem round10n_1 (L : Nat → (St → T (Ex × St)) → St → T (Ex × St)) (p2 : (St → T (Ex × St)) → St → Bool) (p4 : (St → T (Ex × St)) → St → Bool) (e : E6) (t : Bool) (j : Nat → V) (h0 : ieq (legF 1 e) 0 = false) (h1 : t = false) (h2 : ieq (codeF e) 0 = false) (hp2 : p2 (body10_2 (onP 2 p2 (en10_2a e 1 22 (allE 1) T0 0 t 0) (onP 4 p4 (en10_4a e 1 22 (allE 1) 0) L))) (st10_2 e 1 22 (allE 1) T0 (-1) Bool.false 0 (jk2_1 e j)) = true) (hp4 : p4 (body10_4 (onP 2 p2 (en10_2a e 1 22 (allE 1) T0 0 t 0) (onP 4 p4 (en10_4a e 1 22 (allE 1) 0) L))) (st10_4 e 1 22 (allE 1) 0 (jk4n_1 e t j)) = true) : ((body10 (onP 2 p2 (en10_2a e 1 22 (allE 1) T0 0 t 0) (onP 4 p4 (en10_4a e 1 22 (allE 1) 0) L)) (st10 e 1 j)).bind fun r => T.leaf (cutR (lp10 e) r)).sem = some (.nm, ⟨[.und, (.ptr 0 0), (bV Bool.false), (iV (wr IntKind.i64 (iadd 1 1))), .und, .und, .und, .und, .und, .und, .und, .und, .und, .und, .und, .und, .und, .und, .und, .und, .und, .und, .und, .und, .und, .und, .und, .und, .und, .und, .und, .und, .und, .und, .und, .und, .und, .und, .und, .und, .und, .und, .und, .und, .und, .und, .und, .und, .und, .und, .und, .und, .und, .und, .und, .und, .und, .und, .und, .und, .und, .und, .und, .und, .und, .und, .und, .und, .und, .und, .und, .und, .und, .und, .und, .und, .und, .und, .und, .und, .und, .und, .und, .und, .und, .und, .und, .und, .und, .und, .und, .und, .und, .und, .und, .und, .und, .und, .und, .und, .und], [(.cells [(iV (e).kind), (bV (e).ext), (bV (e).same), (iV (e).src), (iV (e).dst), (iV (e).fence)])]⟩) := by
  subst h1; exact sem_of_path (round10n_1_p L p2 p4 e false j) (by simp only [h0, h2, hp2, hp4] <;> rfl)

def jk2_2 (e : E6) (j : Nat → V) : Nat → V
  | 0 => (j 0)
  | 5 => (iV 0)
  | 9 => (j 9)
  | 10 => (j 10)
  | 11 => (j 11)
  | 12 => (j 12)
  | 13 => (j 13)
  | 14 => (iV 2)
  | 15 => (bV (ile 2 2))
  | 16 => (j 16)
  | 17 => (j 17)
  | 18 => (.tup [(.ref 1), (iV 0)])
  | 19 => (iV 2)
  | 20 => (.tup [(.ref 1), (iV 0)])
  | 21 => (.ref 1)
  | 22 => (iV 0)
  | 23 => (iV 0)
  | 24 => (bV (bnot (ieq 0 0)))
  | 25 => (bV (bnot (ieq 0 0)))
  | 26 => (.ref 1)
  | 27 => (iV 104)
  | 28 => (.ref 2)
  | 29 => (iV 2)
  | 30 => (.ept 2 1 2 0)
  | 31 => (iV 104)
  | 32 => (bV (bnot (ieq 104 104)))
  | 33 => (bV (bnot (ieq 104 104)))
  | 34 => (j 34)
  | 35 => (j 35)
  | 36 => (j 36)
  | 37 => (j 37)
  | 38 => (j 38)
  | 39 => (j 39)
  | 40 => (j 40)
  | 41 => (j 41)
  | 42 => (j 42)
  | 43 => (j 43)
  | 44 => (j 44)
  | 45 => (j 45)
  | 46 => (j 46)
  | 47 => (j 47)
  | 48 => (j 48)
  | 49 => (j 49)
  | 50 => (j 50)
  | 51 => (j 51)
  | 52 => (j 52)
  | 53 => (j 53)
  | 54 => (j 54)
  | 55 => (j 55)
  | 56 => (j 56)
  | 57 => (j 57)
  | 58 => (j 58)
  | 59 => (j 59)
  | 60 => (j 60)
  | 61 => (j 61)
  | 62 => (j 62)
  | 63 => (j 63)
  | 64 => (j 64)
  | 65 => (j 65)
  | 66 => (j 66)
  | 67 => (j 67)
  | 68 => (j 68)
  | 69 => (j 69)
  | 70 => (j 70)
  | 71 => (j 71)
  | 72 => (j 72)
  | 73 => (j 73)
  | 74 => (j 74)
  | 75 => (j 75)
  | 76 => (j 76)
  | 77 => (j 77)
  | 78 => (j 78)
  | 79 => (j 79)
  | 80 => (j 80)
  | 81 => (j 81)
  | 82 => (j 82)
  | 83 => (j 83)
  | 84 => (j 84)
  | 85 => (j 85)
  | 86 => (j 86)
  | 87 => (j 87)
  | 88 => (j 88)
  | 89 => (j 89)
  | 90 => (j 90)
  | 91 => (j 91)
  | 92 => (j 92)
  | 93 => (j 93)
  | 94 => (j 94)
  | 95 => (j 95)
  | 96 => (j 96)
  | 97 => (j 97)
  | 98 => (j 98)
  | 99 => (j 99)
  | 100 => (j 100)
  | _ => undefV

def jk4k_2 (e : E6) (t : Bool) (j : Nat → V) : Nat → V
  | 0 => .und
  | 5 => .und
  | 6 => .und
  | 7 => (bV t)
  | 8 => .und
  | 9 => .und
  | 10 => .und
  | 11 => (bV (legR 2 e))
  | 12 => (iV (legF 2 e))
  | 14 => .und
  | 15 => .und
  | 16 => .und
  | 17 => .und
  | 18 => .und
  | 19 => .und
  | 20 => .und
  | 21 => .und
  | 22 => .und
  | 23 => .und
  | 24 => .und
  | 25 => .und
  | 26 => .und
  | 27 => .und
  | 28 => .und
  | 29 => .und
  | 30 => .und
  | 31 => .und
  | 32 => .und
  | 33 => .und
  | 34 => .und
  | 35 => .und
  | 36 => .und
  | 37 => .und
  | 38 => .und
  | 39 => .und
  | 40 => .und
  | 41 => .und
  | 42 => .und
  | 43 => .und
  | 44 => .und
  | 45 => .und
  | 46 => .und
  | 47 => .und
  | 48 => .und
  | 49 => .und
  | 50 => .und
  | 51 => .und
  | 52 => .und
  | 53 => .und
  | 54 => .und
  | 55 => .und
  | 56 => .und
  | 57 => .und
  | 58 => .und
  | 59 => .und
  | 60 => .und
  | 61 => .und
  | 62 => .und
  | 63 => .und
  | 64 => .und
  | 65 => (.tup [(bV (legR 2 e)), (iV (legF 2 e))])
  | 66 => (iV 2)
  | 67 => (eV e)
  | 68 => (.tup [(bV (legR 2 e)), (iV (legF 2 e))])
  | 69 => (bV (legR 2 e))
  | 70 => (iV (legF 2 e))
  | 71 => (iV (legF 2 e))
  | 72 => (bV (ieq (legF 2 e) 0))
  | 73 => (bV (ieq (legF 2 e) 0))
  | 74 => (bV (legR 2 e))
  | 75 => (bV t)
  | 76 => (bV (bnot (beqB (legR 2 e) t)))
  | 77 => (bV (bnot (beqB (legR 2 e) t)))
  | 78 => (bV (bnot (beqB (legR 2 e) t)))
  | 79 => (iV (legF 2 e))
  | 80 => (bV (bnot (ieq (legF 2 e) 0)))
  | 81 => (bV (bnot (ieq (legF 2 e) 0)))
  | 88 => (bV Bool.false)
  | 89 => (bV Bool.false)
  | 90 => .und
  | 91 => .und
  | 92 => .und
  | 93 => .und
  | 94 => .und
  | 95 => .und
  | 96 => .und
  | 97 => .und
  | 98 => .und
  | 99 => .und
  | 100 => .und
  | _ => undefV

def jk4n_2 (e : E6) (t : Bool) (j : Nat → V) : Nat → V
  | 0 => .und
  | 5 => .und
  | 6 => .und
  | 7 => (bV t)
  | 8 => .und
  | 9 => .und
  | 10 => .und
  | 11 => (bV (legR 2 e))
  | 12 => (iV (legF 2 e))
  | 14 => .und
  | 15 => .und
  | 16 => .und
  | 17 => .und
  | 18 => .und
  | 19 => .und
  | 20 => .und
  | 21 => .und
  | 22 => .und
  | 23 => .und
  | 24 => .und
  | 25 => .und
  | 26 => .und
  | 27 => .und
  | 28 => .und
  | 29 => .und
  | 30 => .und
  | 31 => .und
  | 32 => .und
  | 33 => .und
  | 34 => .und
  | 35 => .und
  | 36 => .und
  | 37 => .und
  | 38 => .und
  | 39 => .und
  | 40 => .und
  | 41 => .und
  | 42 => .und
  | 43 => .und
  | 44 => .und
  | 45 => .und
  | 46 => .und
  | 47 => .und
  | 48 => .und
  | 49 => .und
  | 50 => .und
  | 51 => .und
  | 52 => .und
  | 53 => .und
  | 54 => .und
  | 55 => .und
  | 56 => .und
  | 57 => .und
  | 58 => .und
  | 59 => .und
  | 60 => .und
  | 61 => .und
  | 62 => .und
  | 63 => .und
  | 64 => .und
  | 65 => (.tup [(bV (legR 2 e)), (iV (legF 2 e))])
  | 66 => (iV 2)
  | 67 => (eV e)
  | 68 => (.tup [(bV (legR 2 e)), (iV (legF 2 e))])
  | 69 => (bV (legR 2 e))
  | 70 => (iV (legF 2 e))
  | 71 => (iV (legF 2 e))
  | 72 => (bV (ieq (legF 2 e) 0))
  | 73 => (bV (ieq (legF 2 e) 0))
  | 77 => (bV Bool.false)
  | 78 => (bV Bool.false)
  | 79 => (iV (legF 2 e))
  | 80 => (bV (bnot (ieq (legF 2 e) 0)))
  | 81 => (bV (bnot (ieq (legF 2 e) 0)))
  | 82 => (bV t)
  | 83 => (bV t)
  | 84 => (eV e)
  | 85 => (iV (codeF e))
  | 86 => (bV (ieq (codeF e) 0))
  | 87 => (bV (ieq (codeF e) 0))
  | 88 => (bV (ieq (codeF e) 0))
  | 89 => (bV (ieq (codeF e) 0))
  | 90 => .und
  | 91 => .und
  | 92 => .und
  | 93 => .und
  | 94 => .und
  | 95 => .und
  | 96 => .und
  | 97 => .und
  | 98 => .und
  | 99 => .und
  | 100 => .und
  | _ => undefV

theorem round10k_2_p (L : Nat → (St → T (Ex × St)) → St → T (Ex × St)) (p2 : (St → T (Ex × St)) → St → Bool) (p4 : (St → T (Ex × St)) → St → Bool) (e : E6) (t : Bool) (j : Nat → V) : ((body10 (onP 2 p2 (en10_2a e 2 104 (allE 2) T0 0 t 0) (onP 4 p4 (en10_4a e 2 104 (allE 2) 0) L)) (st10 e 2 j)).bind fun r => T.leaf (cutR (lp10 e) r)).path [true, false, true, false, false, false, false, false, true, false, true, false, false, false, true, true, true, true, true, false, false, false, false, false, false, false, false, false, false, true] = some ([(ile 2 2), (ieq 2 1), (ieq 2 2), (bnot (ieq 0 0)), (bnot (ieq 0 0)), (bnot (ieq 0 0)), (bnot (ieq 0 0)), (bnot (ieq 0 0)), (band (ile 0 2) (ilt 2 3)), (bnot (ieq 0 0)), (nlt 2 3), (bnot (ieq 0 0)), (bnot (ieq 0 0)), (bnot (ieq 104 104)), (p2 (body10_2 (onP 2 p2 (en10_2a e 2 104 (allE 2) T0 0 t 0) (onP 4 p4 (en10_4a e 2 104 (allE 2) 0) L))) (st10_2 e 2 104 (allE 2) T0 (-1) Bool.false 0 (jk2_2 e j))), (ieq (legF 2 e) 0), (ieq (legF 2 e) 0), (ieq (legF 2 e) 0), (ieq (legF 2 e) 0), (bnot (beqB (legR 2 e) t)), (bnot (beqB (legR 2 e) t)), (bnot (beqB (legR 2 e) t)), (bnot (ieq (legF 2 e) 0)), (bnot (ieq (legF 2 e) 0)), (bnot (ieq (legF 2 e) 0)), (bnot (beqB (legR 2 e) t)), (bnot (ieq (legF 2 e) 0)), (bnot (beqB (legR 2 e) t)), Bool.false, (p4 (body10_4 (onP 2 p2 (en10_2a e 2 104 (allE 2) T0 0 t 0) (onP 4 p4 (en10_4a e 2 104 (allE 2) 0) L))) (st10_4 e 2 104 (allE 2) 0 (jk4k_2 e t j)))], (.nm, ⟨[.und, (.ptr 0 0), (bV Bool.false), (iV (wr IntKind.i64 (iadd 2 1))), .und, .und, .und, .und, .und, .und, .und, .und, .und, .und, .und, .und, .und, .und, .und, .und, .und, .und, .und, .und, .und, .und, .und, .und, .und, .und, .und, .und, .und, .und, .und, .und, .und, .und, .und, .und, .und, .und, .und, .und, .und, .und, .und, .und, .und, .und, .und, .und, .und, .und, .und, .und, .und, .und, .und, .und, .und, .und, .und, .und, .und, .und, .und, .und, .und, .und, .und, .und, .und, .und, .und, .und, .und, .und, .und, .und, .und, .und, .und, .und, .und, .und, .und, .und, .und, .und, .und, .und, .und, .und, .und, .und, .und, .und, .und, .und, .und], [(.cells [(iV (e).kind), (bV (e).ext), (bV (e).same), (iV (e).src), (iV (e).dst), (iV (e).fence)])]⟩)) := by kernel_rfl
theorem round10k_2 (L : Nat → (St → T (Ex × St)) → St → T (Ex × St)) (p2 : (St → T (Ex × St)) → St → Bool) (p4 : (St → T (Ex × St)) → St → Bool) (e : E6) (t : Bool) (j : Nat → V) (h0 : ieq (legF 2 e) 0 = true) (h1 : beqB (legR 2 e) t = true) (hp2 : p2 (body10_2 (onP 2 p2 (en10_2a e 2 104 (allE 2) T0 0 t 0) (onP 4 p4 (en10_4a e 2 104 (allE 2) 0) L))) (st10_2 e 2 104 (allE 2) T0 (-1) Bool.false 0 (jk2_2 e j)) = true) (hp4 : p4 (body10_4 (onP 2 p2 (en10_2a e 2 104 (allE 2) T0 0 t 0) (onP 4 p4 (en10_4a e 2 104 (allE 2) 0) L))) (st10_4 e 2 104 (allE 2) 0 (jk4k_2 e t j)) = true) : ((body10 (onP 2 p2 (en10_2a e 2 104 (allE 2) T0 0 t 0) (onP 4 p4 (en10_4a e 2 104 (allE 2) 0) L)) (st10 e 2 j)).bind fun r => T.leaf (cutR (lp10 e) r)).sem = some (.nm, ⟨[.und, (.ptr 0 0), (bV Bool.false), (iV (wr IntKind.i64 (iadd 2 1))), .und, .und, .und, .und, .und, .und, .und, .und, .und, .und, .und, .und, .und, .und, .und, .und, .und, .und, .und, .und, .und, .und, .und, .und, .und, .und, .und, .und, .und, .und, .und, .und, .und, .und, .und, .und, .und, .und, .und, .und, .und, .und, .und, .und, .und, .und, .und, .und, .und, .und, .und, .und, .und, .und, .und, .und, .und, .und, .und, .und, .und, .und, .und, .und, .und, .und, .und, .und, .und, .und, .und, .und, .und, .und, .und, .und, .und, .und, .und, .und, .und, .und, .und, .und, .und, .und, .und, .und, .und, .und, .und, .und, .und, .und, .und, .und, .und], [(.cells [(iV (e).kind), (bV (e).ext), (bV (e).same), (iV (e).src), (iV (e).dst), (iV (e).fence)])]⟩) := by
  exact sem_of_path (round10k_2_p L p2 p4 e t j) (by simp only [h0, h1, hp2, hp4] <;> rfl)

theorem round10n_2_p (L : Nat → (St → T (Ex × St)) → St → T (Ex × St)) (p2 : (St → T (Ex × St)) → St → Bool) (p4 : (St → T (Ex × St)) → St → Bool) (e : E6) (t : Bool) (j : Nat → V) : ((body10 (onP 2 p2 (en10_2a e 2 104 (allE 2) T0 0 t 0) (onP 4 p4 (en10_4a e 2 104 (allE 2) 0) L)) (st10 e 2 j)).bind fun r => T.leaf (cutR (lp10 e) r)).path [true, false, true, false, false, false, false, false, true, false, true, false, false, false, true, false, false, false, false, false, false, false, true, true, false, false, false, true, false, false, true, false, false, true] = some ([(ile 2 2), (ieq 2 1), (ieq 2 2), (bnot (ieq 0 0)), (bnot (ieq 0 0)), (bnot (ieq 0 0)), (bnot (ieq 0 0)), (bnot (ieq 0 0)), (band (ile 0 2) (ilt 2 3)), (bnot (ieq 0 0)), (nlt 2 3), (bnot (ieq 0 0)), (bnot (ieq 0 0)), (bnot (ieq 104 104)), (p2 (body10_2 (onP 2 p2 (en10_2a e 2 104 (allE 2) T0 0 t 0) (onP 4 p4 (en10_4a e 2 104 (allE 2) 0) L))) (st10_2 e 2 104 (allE 2) T0 (-1) Bool.false 0 (jk2_2 e j))), (ieq (legF 2 e) 0), (ieq (legF 2 e) 0), (ieq (legF 2 e) 0), (ieq (legF 2 e) 0), Bool.false, Bool.false, Bool.false, (bnot (ieq (legF 2 e) 0)), (bnot (ieq (legF 2 e) 0)), t, t, t, (bnot (ieq (legF 2 e) 0)), t, Bool.false, (bnot (ieq (legF 2 e) 0)), Bool.false, (ieq (codeF e) 0), (p4 (body10_4 (onP 2 p2 (en10_2a e 2 104 (allE 2) T0 0 t 0) (onP 4 p4 (en10_4a e 2 104 (allE 2) 0) L))) (st10_4 e 2 104 (allE 2) 0 (jk4n_2 e t j)))], (.nm, ⟨[.und, (.ptr 0 0), (bV Bool.false), (iV (wr IntKind.i64 (iadd 2 1))), .und, .und, .und, .und, .und, .und, .und, .und, .und, .und, .und, .und, .und, .und, .und, .und, .und, .und, .und, .und, .und, .und, .und, .und, .und, .und, .und, .und, .und, .und, .und, .und, .und, .und, .und, .und, .und, .und, .und, .und, .und, .und, .und, .und, .und, .und, .und, .und, .und, .und, .und, .und, .und, .und, .und, .und, .und, .und, .und, .und, .und, .und, .und, .und, .und, .und, .und, .und, .und, .und, .und, .und, .und, .und, .und, .und, .und, .und, .und, .und, .und, .und, .und, .und, .und, .und, .und, .und, .und, .und, .und, .und, .und, .und, .und, .und, .und], [(.cells [(iV (e).kind), (bV (e).ext), (bV (e).same), (iV (e).src), (iV (e).dst), (iV (e).fence)])]⟩)) := by kernel_rfl
theorem round10n_2 (L : Nat → (St → T (Ex × St)) → St → T (Ex × St)) (p2 : (St → T (Ex × St)) → St → Bool) (p4 : (St → T (Ex × St)) → St → Bool) (e : E6) (t : Bool) (j : Nat → V) (h0 : ieq (legF 2 e) 0 = false) (h1 : t = false) (h2 : ieq (codeF e) 0 = false) (hp2 : p2 (body10_2 (onP 2 p2 (en10_2a e 2 104 (allE 2) T0 0 t 0) (onP 4 p4 (en10_4a e 2 104 (allE 2) 0) L))) (st10_2 e 2 104 (allE 2) T0 (-1) Bool.false 0 (jk2_2 e j)) = true) (hp4 : p4 (body10_4 (onP 2 p2 (en10_2a e 2 104 (allE 2) T0 0 t 0) (onP 4 p4 (en10_4a e 2 104 (allE 2) 0) L))) (st10_4 e 2 104 (allE 2) 0 (jk4n_2 e t j)) = true) : ((body10 (onP 2 p2 (en10_2a e 2 104 (allE 2) T0 0 t 0) (onP 4 p4 (en10_4a e 2 104 (allE 2) 0) L)) (st10 e 2 j)).bind fun r => T.leaf (cutR (lp10 e) r)).sem = some (.nm, ⟨[.und, (.ptr 0 0), (bV Bool.false), (iV (wr IntKind.i64 (iadd 2 1))), .und, .und, .und, .und, .und, .und, .und, .und, .und, .und, .und, .und, .und, .und, .und, .und, .und, .und, .und, .und, .und, .und, .und, .und, .und, .und, .und, .und, .und, .und, .und, .und, .und, .und, .und, .und, .und, .und, .und, .und, .und, .und, .und, .und, .und, .und, .und, .und, .und, .und, .und, .und, .und, .und, .und, .und, .und, .und, .und, .und, .und, .und, .und, .und, .und, .und, .und, .und, .und, .und, .und, .und, .und, .und, .und, .und, .und, .und, .und, .und, .und, .und, .und, .und, .und, .und, .und, .und, .und, .und, .und, .und, .und, .und, .und, .und, .und], [(.cells [(iV (e).kind), (bV (e).ext), (bV (e).same), (iV (e).src), (iV (e).dst), (iV (e).fence)])]⟩) := by
  subst h1; exact sem_of_path (round10n_2_p L p2 p4 e false j) (by simp only [h0, h2, hp2, hp4] <;> rfl)

theorem way10_p (L : Nat → (St → T (Ex × St)) → St → T (Ex × St)) (p0 : (St → T (Ex × St)) → St → Bool) (e : E6) : (finF (evalF tab ⟨callT tb10, (onP 0 p0 (en10a e 3) L), Gl⟩ Tryd.f10 [eV e] [])).path [true] = some ([(p0 (body10 (onP 0 p0 (en10a e 3) L)) (st10 e 1 (jk10 e )))], ((bV Bool.true), [])) := by kernel_rfl
theorem way10 (L : Nat → (St → T (Ex × St)) → St → T (Ex × St)) (p0 : (St → T (Ex × St)) → St → Bool) (e : E6)  (hp0 : p0 (body10 (onP 0 p0 (en10a e 3) L)) (st10 e 1 (jk10 e )) = true) : (finF (evalF tab ⟨callT tb10, (onP 0 p0 (en10a e 3) L), Gl⟩ Tryd.f10 [eV e] [])).sem = some ((bV Bool.true), []) := by
  exact sem_of_path (way10_p L p0 e) (by simp only [hp0] <;> rfl)

/-! ### What all edges of an architecture are -/

/-- Is an edge among those from the i-th on? -/
def anyE (g : Nat → E6) (e : E6) : Nat → Nat → Bool
  | 0, _ => false
  | d + 1, i => bor (eqE (g i) e) (anyE g e d (i + 1))

theorem anyE_iff (g : Nat → E6) (e : E6) : ∀ d i, anyE g e d i = true ↔ ∃ j, i ≤ j ∧ j < i + d ∧ g j = e
  | 0, i => by
    constructor
    · intro h; cases h
    · rintro ⟨j, h1, h2, _⟩; omega
  | d + 1, i => by
    have ih := anyE_iff g e d (i + 1)
    simp only [anyE, bor, Bool.or_eq_true, eqE_iff, ih]
    constructor
    · rintro (h | ⟨j, h1, h2, h3⟩)
      · exact ⟨i, Nat.le_refl _, by omega, h⟩
      · exact ⟨j, by omega, by omega, h3⟩
    · rintro ⟨j, h1, h2, h3⟩
      by_cases hj : j = i
      · subst hj; exact .inl h3
      · exact .inr ⟨j, by omega, by omega, h3⟩

theorem len1 : (allL 1).length = 22 := by kernel_rfl
theorem len2 : (allL 2).length = 104 := by kernel_rfl

theorem anyE_all (a : Int) (N : Nat) (hN : (allL a).length = N) (e : E6) : anyE (allE a) e N 0 = true ↔ e ∈ allL a := by
  rw [anyE_iff]
  constructor
  · rintro ⟨j, _, h2, h3⟩
    have hj : j < (allL a).length := by omega
    rw [← h3]
    unfold allE
    show ((allL a)[j]?).getD zeroE ∈ allL a
    rw [List.getElem?_eq_getElem hj]
    exact List.getElem_mem hj
  · intro h
    obtain ⟨j, hj, hje⟩ := List.getElem_of_mem h
    refine ⟨j, Nat.zero_le _, by omega, ?_⟩
    unfold allE
    show ((allL a)[j]?).getD zeroE = e
    rw [List.getElem?_eq_getElem hj]
    exact hje

theorem made_codeN (k : Nat) (hk : k < 112) : codeN (madeE k) = Int.ofNat k ∧ codeF (madeE k) = 0 := by
  rcases codeF_cases (madeE k) with ⟨j, hj, h1, h2, h3, _⟩ | ⟨_, _, _, h⟩
  · have h4 : (List.range 112).map (fun k => findE (madeE k) 112 0) = (List.range 112).map some := by kernel_rfl
    have h5 := all_below h4 k hk
    refine ⟨?_, h1⟩
    unfold codeN
    rw [h5]
  · exact absurd rfl (h k hk)

/-- An edge is among them just if it may be and is legal. -/
theorem all_legal (a : Int) (ha : knownB a = true) (e : E6) : e ∈ allL a ↔ legR a e = true := by
  unfold legR allL
  rw [ha]
  simp only [List.mem_map, List.mem_filter, List.mem_range]
  rcases codeF_cases e with ⟨k, hk, h1, h2, h3, _⟩ | ⟨h1, _, _, h⟩
  · rw [h1, h2]
    constructor
    · rintro ⟨j, ⟨hj, hl⟩, he⟩
      have := (made_codeN j hj).1
      rw [he, h2] at this
      have := Int.ofNat.inj this
      subst this
      exact hl
    · intro hl
      exact ⟨k, ⟨hk, hl⟩, h3⟩
  · rw [h1]
    constructor
    · rintro ⟨j, ⟨hj, _⟩, he⟩
      exact absurd he (h j hj)
    · intro hl; cases hl

theorem codes1 : (List.range 22).map (fun i => codeF (allE 1 i)) = (List.range 22).map fun _ => 0 := by kernel_rfl
theorem codes2 : (List.range 104).map (fun i => codeF (allE 2 i)) = (List.range 104).map fun _ => 0 := by kernel_rfl
def lastN (g : Nat → E6) : Nat → Int
  | 0 => -1
  | i + 1 => codeN (g i)
theorem rise1 : (List.range 22).map (fun i => ile (codeN (allE 1 i)) (lastN (allE 1) i)) = (List.range 22).map fun _ => false := by kernel_rfl
theorem rise2 : (List.range 104).map (fun i => ile (codeN (allE 2 i)) (lastN (allE 2) i)) = (List.range 104).map fun _ => false := by kernel_rfl

/-! ### The loops -/

section
variable (L : Nat → (St → T (Ex × St)) → St → T (Ex × St)) (e : E6) (A : Int) (N : Nat)

theorem run10_2 (g : Nat → E6) (h : Nat → V) (hN : N ≤ 4611686018427387904) (hc : ∀ i, i < N → codeF (g i) = 0) (hr : ∀ i, i < N → ile (codeN (g i)) (lastN g i) = false) : ∀ (d i : Nat) (t : Bool) (j : Nat → V) (q : Nat), N = i + d → d < q →
    (iterT (body10_2 L) (lp10_2 e) q (st10_2 e A N g h (lastN g i) t i j)).sem = some (en10_2a e A N g h 0 (bor t (anyE g e d i)) 0)
  | 0, i, t, j, q + 1, h1, _ => by
    have hz : bor t (anyE g e 0 i) = t := by cases t <;> rfl
    rw [hz]
    exact iter_round (round10_2a L e A N g h (lastN g i) t i j (ofNat_ge (by omega)))
  | d + 1, i, t, j, q + 1, h1, h2 => by
    have hi : i < N := by omega
    have h3 : ieq (codeF (g i)) 0 = true := by rw [hc i hi]; rfl
    cases t with
    | true =>
      rw [iter_round (round10_2t L e A N g h (lastN g i) true i j (ofNat_lt hi) (ofNat_in hi) (nlt_true hi) h3 (hr i hi) rfl), succ_wr hi hN]
      exact run10_2 g h hN hc hr d (i + 1) true (fun _ => .und) q (by omega) (by omega)
    | false =>
      rw [iter_round (round10_2f L e A N g h (lastN g i) false i j (ofNat_lt hi) (ofNat_in hi) (nlt_true hi) h3 (hr i hi) rfl), succ_wr hi hN]
      exact run10_2 g h hN hc hr d (i + 1) (eqE (g i) e) (fun _ => .und) q (by omega) (by omega)

def e77 : E6 := ⟨77, false, false, 0, 0, 0⟩
def putE (g : Nat → E6) (k : Nat) (v : E6) : Nat → E6 := fun i => bif Nat.beq i k then v else g i
theorem put_eq (g : Nat → E6) (k : Nat) (v : E6) : setGet (fun i => eV (g i)) k (eV v) = fun i => eV (putE g k v i) := by
  funext i
  unfold setGet putE
  cases Nat.beq i k <;> rfl

theorem run10_4 (hN : N ≤ 4611686018427387904) : ∀ (d i : Nat) (g g' : Nat → E6) (j : Nat → V) (q : Nat), N = i + d → d < q →
    (iterT (body10_4 L) (lp10_4 e) q (st10_4 e A N g i j)).sem = some (en10_4a e A N g' 0)
  | 0, i, g, g', j, q + 1, h1, _ => by
    rw [iter_round (round10_4a L e A N g i j (ofNat_ge (by omega)))]
    rfl
  | d + 1, i, g, g', j, q + 1, h1, h2 => by
    have hi : i < N := by omega
    rw [iter_round (round10_4n L e A N g i j (ofNat_lt hi) (ofNat_in hi) (nlt_true hi)), succ_wr hi hN, show setGet (fun i => eV (g i)) i (.agg [iV 77, bV Bool.false, bV Bool.false, iV 0, iV 0, iV 0]) = _ from put_eq g i e77]
    exact run10_4 hN d (i + 1) (putE g i e77) g' (fun _ => .und) q (by omega) (by omega)

end

def lps10 (e : E6) : List (Nat × Lp) := [(0, lp10 e), (2, lp10_2 e), (4, lp10_4 e)]

theorem isP_le {L : Nat → (St → T (Ex × St)) → St → T (Ex × St)} (hL : LLe L L) (k : Nat) (r : Ex × St) : LLe (onP k (isP L k r) r L) (onP k (isP L k r) r L) := fun id f f' st hf r' hr => by
  unfold onP at hr ⊢
  cases hk : Nat.beq id k with
  | true =>
    rw [hk] at hr
    obtain ⟨h1, h2⟩ := sem_br_fail hr
    unfold isP at h1
    have h1 := @of_decide_eq_true _ (Classical.propDecidable _) h1
    have h3 : isP L k r f' st = true := isP_true (hL k f f' st hf _ h1)
    show sel (isP L k r f' st) _ _ = _
    rw [h3]
    exact h2
  | false =>
    rw [hk] at hr
    exact hL id f f' st hf _ hr

theorem law10 (e : E6) : (finF (evalF tab (cxOf Gl tb10 (lps10 e)) Tryd.f10 [eV e] [])).sem = some (bV true, []) := by
  have hL := loopsBy_le (lps10 e)
  refine told_le (onP_le hL hL) _ (way10 _ _ e (isP_true ?_))
  generalize hM : onP 0 (isP (loopsBy (lps10 e)) 0 (en10a e 3)) (en10a e 3) (loopsBy (lps10 e)) = M
  have hMM : LLe M M := by rw [← hM]; exact isP_le hL 0 _
  have m2 : ∀ f st, M 2 f st = iterT f (lp10_2 e) 105 st := fun f st => by rw [← hM]; rfl
  have m4 : ∀ f st, M 4 f st = iterT f (lp10_4 e) 105 st := fun f st => by rw [← hM]; rfl
  have k1 : knownB 1 = true := by rfl
  have k2 : knownB 2 = true := by rfl
  -- a round
  have r1 : ∀ j, ∃ j', roundT (body10 M) (lp10 e) (st10 e 1 j) = some (.nm, st10 e 2 j') := by
    intro j
    have hle : LLe (onP 2 (isP M 2 (en10_2a e 1 22 (allE 1) T0 0 (anyE (allE 1) e 22 0) 0)) (en10_2a e 1 22 (allE 1) T0 0 (anyE (allE 1) e 22 0) 0) (onP 4 (isP M 4 (en10_4a e 1 22 (allE 1) 0)) (en10_4a e 1 22 (allE 1) 0) M)) M := onP_le (onP_le hMM hMM) hMM
    have q2 := fun L => run10_2 L e 1 22 (allE 1) T0 (by decide) (fun i hi => all_below codes1 i hi) (fun i hi => all_below rise1 i hi) 22 0 false (jk2_1 e j) 105 (by decide) (by decide)
    refine ⟨fun _ => .und, roundT_le (evalC_le (Γ := ⟨callT tb10, M, Gl⟩) hle (loopBody Tryd.f10 0) 0 _) ?_⟩
    cases hf : ieq (legF 1 e) 0 with
    | true =>
      refine round10k_1 _ _ _ e _ j hf ?_ (isP_true (by rw [m2]; exact q2 _)) (isP_true (by rw [m4]; exact run10_4 _ e 1 22 (by decide) 22 0 (allE 1) (allE 1) _ 105 (by decide) (by decide)))
      have := (anyE_all 1 22 len1 e).trans (all_legal 1 k1 e)
      cases h1 : legR 1 e <;> cases h2 : anyE (allE 1) e 22 0 <;> simp_all [beqB]
    | false =>
      have h0 : ieq (codeF e) 0 = false := by
        unfold legF at hf
        rw [k1] at hf
        exact hf
      refine round10n_1 _ _ _ e _ j hf ?_ h0 (isP_true (by rw [m2]; exact q2 _)) (isP_true (by rw [m4]; exact run10_4 _ e 1 22 (by decide) 22 0 (allE 1) (allE 1) _ 105 (by decide) (by decide)))
      have := (anyE_all 1 22 len1 e).trans (all_legal 1 k1 e)
      have h1 : legR 1 e = false := by unfold legR; rw [k1, h0]; rfl
      cases h2 : anyE (allE 1) e 22 0 <;> simp_all
  have r2 : ∀ j, ∃ j', roundT (body10 M) (lp10 e) (st10 e 2 j) = some (.nm, st10 e 3 j') := by
    intro j
    have hle : LLe (onP 2 (isP M 2 (en10_2a e 2 104 (allE 2) T0 0 (anyE (allE 2) e 104 0) 0)) (en10_2a e 2 104 (allE 2) T0 0 (anyE (allE 2) e 104 0) 0) (onP 4 (isP M 4 (en10_4a e 2 104 (allE 2) 0)) (en10_4a e 2 104 (allE 2) 0) M)) M := onP_le (onP_le hMM hMM) hMM
    have q2 := fun L => run10_2 L e 2 104 (allE 2) T0 (by decide) (fun i hi => all_below codes2 i hi) (fun i hi => all_below rise2 i hi) 104 0 false (jk2_2 e j) 105 (by decide) (by decide)
    refine ⟨fun _ => .und, roundT_le (evalC_le (Γ := ⟨callT tb10, M, Gl⟩) hle (loopBody Tryd.f10 0) 0 _) ?_⟩
    cases hf : ieq (legF 2 e) 0 with
    | true =>
      refine round10k_2 _ _ _ e _ j hf ?_ (isP_true (by rw [m2]; exact q2 _)) (isP_true (by rw [m4]; exact run10_4 _ e 2 104 (by decide) 104 0 (allE 2) (allE 2) _ 105 (by decide) (by decide)))
      have := (anyE_all 2 104 len2 e).trans (all_legal 2 k2 e)
      cases h1 : legR 2 e <;> cases h2 : anyE (allE 2) e 104 0 <;> simp_all [beqB]
    | false =>
      have h0 : ieq (codeF e) 0 = false := by
        unfold legF at hf
        rw [k2] at hf
        exact hf
      refine round10n_2 _ _ _ e _ j hf ?_ h0 (isP_true (by rw [m2]; exact q2 _)) (isP_true (by rw [m4]; exact run10_4 _ e 2 104 (by decide) 104 0 (allE 2) (allE 2) _ 105 (by decide) (by decide)))
      have := (anyE_all 2 104 len2 e).trans (all_legal 2 k2 e)
      have h1 : legR 2 e = false := by unfold legR; rw [k2, h0]; rfl
      cases h2 : anyE (allE 2) e 104 0 <;> simp_all
  show (iterT (body10 M) (lp10 e) 3 (st10 e 1 (jk10 e))).sem = _
  obtain ⟨j1, h1⟩ := r1 (jk10 e)
  rw [iter_round h1, goOn_nm]
  obtain ⟨j2, h2⟩ := r2 j1
  rw [iter_round h2, goOn_nm]
  rw [iter_round (round10x M e 3 j2 rfl)]
  rfl

theorem p10 : PureC Tryd.prog Gl 10 (edgeT fun _ => bV true) := by
  refine pureC_intro tabOK mixed Tryd.func10 (by kernel_rfl) (by kernel_rfl) fun vs v h' h => ?_
  obtain ⟨e, rfl, hr⟩ := edgeT_some h
  simp only [Prod.mk.injEq] at hr
  obtain ⟨rfl, rfl⟩ := hr
  have hx := cx_ok tb10_ok (lps10 e)
  exact ⟨_, cxOf Gl tb10 (lps10 e), _, ArgLE.refl _, rfl, hx.1, hx.2, law10 e, RowsLE.refl _⟩

end Go.Proofs.YtcaljjnadbpacaaDoor.Ed
