/-
  Layer 5: the laws CountBurnside and CountWords as functions. No conditions.
-/
import Derived.Test.YtdmjcpindopjdaaCoVj
namespace Go.Proofs.Ytdmjcpindopjdaa.Co
open Go.Sy

noncomputable def tb8 : List (Nat × (List V → T (V × List Blk))) := [(15, unitT (bV true)), (17, gateT fun n f k => cls05 n f k), (28, gateT fun n f k => cls05 n f k), (25, divsT), (23, totientT), (16, gateT fun n f k => cl05 n f k)]
theorem tb8_ok : AllPure Try.prog Gl tb8 := .cons p15 <| .cons p17c <| .cons p28c <| .cons p25 <| .cons p23 <| .cons p16c .nil
noncomputable def tbA : List (Nat × (List V → T (V × List Blk))) := [(15, unitT (bV true)), (16, gateT fun n f k => cl05 n f k), (17, gateT fun n f k => cls05 n f k), (29, gateT fun n f k => wrdN (cl05 n f) k)]
theorem tbA_ok : AllPure Try.prog Gl tbA := .cons p15 <| .cons p16c <| .cons p17c <| .cons p29c .nil

theorem wl8e_p (L : Nat → (St → T (Ex × St)) → St → T (Ex × St)) (n : Nat) (f : Nat → E6) (k : Int) : (finF (evalF tab ⟨callT tb8, L, Gl⟩ Try.f8 [edgesV n f, iV k] [])).path [true, true, true, true, true, true, true, true, true] = some ([(allN n (fun _ => Bool.true)), (badN k), (bnot (ieq (gate2 n f k (cls05 n f (toN k))) 0)), (allN n (fun _ => Bool.true)), (ieq (gate2 n f k (cls05 n f (toN k))) (gate2 n f k (cls05 n f (toN k)))), (ieq (gate2 n f k (cls05 n f (toN k))) (gate2 n f k (cls05 n f (toN k)))), (ieq (gate2 n f k (cls05 n f (toN k))) (gate2 n f k (cls05 n f (toN k)))), (ieq (gate1 n f k (cls05 n f (toN k))) 0), (ieq (gate1 n f k (cls05 n f (toN k))) 0)], ((bV Bool.true), [])) := by kernel_rfl
theorem wl8e (L : Nat → (St → T (Ex × St)) → St → T (Ex × St)) (n : Nat) (f : Nat → E6) (k : Int) (h3 : badN k = true) (h0 : ieq (gate2 n f k (cls05 n f (toN k))) 0 = false) (h1 : ieq (gate2 n f k (cls05 n f (toN k))) (gate2 n f k (cls05 n f (toN k))) = true) (h2 : ieq (gate1 n f k (cls05 n f (toN k))) 0 = true) : (finF (evalF tab ⟨callT tb8, L, Gl⟩ Try.f8 [edgesV n f, iV k] [])).sem = some ((bV Bool.true), []) := by
  exact sem_of_path (wl8e_p L n f k) (by simp only [h3, h0, h1, h2, allN_true] <;> rfl)

theorem wl8d_p (L : Nat → (St → T (Ex × St)) → St → T (Ex × St)) (n : Nat) (f : Nat → E6) (k : Int) : (finF (evalF tab ⟨callT tb8, L, Gl⟩ Try.f8 [edgesV n f, iV k] [])).path [true, false, true, true, true, true, true, true, true] = some ([(allN n (fun _ => Bool.true)), (badN k), (bnot (ieq (gate2 n f k (cls05 n f (toN k))) 0)), (allN n (fun _ => Bool.true)), (ieq (gate2 n f k (cls05 n f (toN k))) (gate2 n f k (cls05 n f (toN k)))), (ieq (gate2 n f k (cls05 n f (toN k))) (gate2 n f k (cls05 n f (toN k)))), (ieq (gate2 n f k (cls05 n f (toN k))) (gate2 n f k (cls05 n f (toN k)))), (ieq (gate1 n f k (cls05 n f (toN k))) 0), (ieq (gate1 n f k (cls05 n f (toN k))) 0)], ((bV Bool.true), [])) := by kernel_rfl
theorem wl8d (L : Nat → (St → T (Ex × St)) → St → T (Ex × St)) (n : Nat) (f : Nat → E6) (k : Int) (h3 : badN k = false) (h0 : ieq (gate2 n f k (cls05 n f (toN k))) 0 = false) (h1 : ieq (gate2 n f k (cls05 n f (toN k))) (gate2 n f k (cls05 n f (toN k))) = true) (h2 : ieq (gate1 n f k (cls05 n f (toN k))) 0 = true) : (finF (evalF tab ⟨callT tb8, L, Gl⟩ Try.f8 [edgesV n f, iV k] [])).sem = some ((bV Bool.true), []) := by
  exact sem_of_path (wl8d_p L n f k) (by simp only [h3, h0, h1, h2, allN_true] <;> rfl)

theorem wl8g_p (L : Nat → (St → T (Ex × St)) → St → T (Ex × St)) (n : Nat) (f : Nat → E6) (k : Int) : (finF (evalF tab ⟨callT tb8, L, Gl⟩ Try.f8 [edgesV n f, iV k] [])).path [true, false, false, false, false, false, true, true, true, true, true, true] = some ([(allN n (fun _ => Bool.true)), (badN k), (bnot (ieq (gate2 n f k (cls05 n f (toN k))) 0)), (bnot (ieq 0 0)), (bnot (ieq 0 0)), (bnot (ieq 0 0)), (ilt 1125899906842624 (gate1 n f k (cls05 n f (toN k)))), (ilt 1125899906842624 (gate1 n f k (cls05 n f (toN k)))), (ilt 1125899906842624 (gate1 n f k (cls05 n f (toN k)))), Bool.true, (ieq 0 0), (ieq 0 0)], ((bV Bool.true), [])) := by kernel_rfl
theorem wl8g (L : Nat → (St → T (Ex × St)) → St → T (Ex × St)) (n : Nat) (f : Nat → E6) (k : Int) (h1 : badN k = false) (h0 : ieq (gate2 n f k (cls05 n f (toN k))) 0 = true) (h2 : ilt 1125899906842624 (gate1 n f k (cls05 n f (toN k))) = true) : (finF (evalF tab ⟨callT tb8, L, Gl⟩ Try.f8 [edgesV n f, iV k] [])).sem = some ((bV Bool.true), []) := by
  exact sem_of_path (wl8g_p L n f k) (by simp only [h1, h0, h2, allN_true] <;> rfl)

def lp8 (n : Nat) (f : Nat → E6) (k : Int) : Lp := ⟨[true, true, false, false, false, true, false, true, false, false, false, true, true, false, false, false, false, false, false, false, false, false, false, false, false, false, false, false, false, false, false, false, false, false, false, false, false, false, false, false, false, false, false, false, false, false, false, false, false, false, false, false, false, false, false, false, false, false, false, false, false, false, false, false, false, false, false, false, false, false, false, false, false, false, false, false, false, false, false, false, false, false, false, false, false, false, false, false, false, false, false, false, false, false, false, false, false, false, false, false, false, false, false, false, false, false, false, false, false, false, false, false, false, false, false, false], 1, [false, true, false, false, false, true, false, false, false, false, false, true, false, false, false, false, false, false, false, false, false, false, false, false, false, false, false, false, false, false, false, false, false, false, false, false, false, false, false, false, false, false, false, false, false, false, false, false, false, false, false, false, false, false, false, false, false, false, false, false, false, false, false, false, false, false, false, false, false, false, false, false, false, false, false, false, false, false, false, false, false, false, false, false, false, false, false, false, false, false, false, false, false, false, false, false, false, false, false, false, false, false, false, false, false, false, false, false, false, false, false, false, false, false, false, false], 0, dvN k + 1⟩
def st8 (n : Nat) (f : Nat → E6) (k : Int) (c s : Int) (i : Nat) (j : Nat → V) : St := ⟨[.sl 6 n (fun i => (eV (f i))), iV k, j 2, j 3, j 4, iV c, j 6, .ref 0, j 8, j 9, j 10, iV s, iV (Int.ofNat i), j 13, j 14, j 15, j 16, j 17, j 18, j 19, j 20, j 21, j 22, j 23, j 24, j 25, j 26, j 27, j 28, j 29, j 30, j 31, j 32, j 33, j 34, j 35, j 36, j 37, j 38, j 39, j 40, j 41, j 42, j 43, j 44, j 45, j 46, j 47, j 48, j 49, j 50, j 51, j 52, j 53, j 54, j 55, j 56, j 57, j 58, j 59, j 60, j 61, j 62, j 63, j 64, j 65, j 66, j 67, j 68, j 69, j 70, j 71, j 72, j 73, j 74, j 75, j 76, j 77, j 78, j 79, j 80, j 81, j 82, j 83, j 84, j 85, j 86, j 87, j 88, j 89, j 90, j 91, j 92, j 93, j 94, j 95, j 96, j 97, j 98, j 99, j 100, j 101, j 102, j 103, j 104, j 105, j 106, j 107, j 108, j 109, j 110, j 111, j 112, j 113, j 114, j 115], [.row 3 1 (dvN k) (fun i => iV (dvI k i))]⟩
def en8a (n : Nat) (f : Nat → E6) (k : Int) (c s : Int) (i : Nat) : Ex × St := (.ex 0, ⟨[.und, iV k, .und, .und, .und, iV c, .und, .und, .und, .und, .und, iV s, .und, .und, .und, .und, .und, .und, .und, .und, .und, .und, .und, .und, .und, .und, .und, .und, .und, .und, .und, .und, .und, .und, .und, .und, .und, .und, .und, .und, .und, .und, .und, .und, .und, .und, .und, .und, .und, .und, .und, .und, .und, .und, .und, .und, .und, .und, .und, .und, .und, .und, .und, .und, .und, .und, .und, .und, .und, .und, .und, .und, .und, .und, .und, .und, .und, .und, .und, .und, .und, .und, .und, .und, .und, .und, .und, .und, .und, .und, .und, .und, .und, .und, .und, .und, .und, .und, .und, .und, .und, .und, .und, .und, .und, .und, .und, .und, .und, .und, .und, .und, .und, .und, .und, .und], []⟩)
noncomputable def body8 (L : Nat → (St → T (Ex × St)) → St → T (Ex × St)) : St → T (Ex × St) := fun st => evalC tab ⟨callT tb8, L, Gl⟩ (loopBody Try.f8 0) 0 st
theorem rl8a_p (L : Nat → (St → T (Ex × St)) → St → T (Ex × St)) (n : Nat) (f : Nat → E6) (k : Int) (c s : Int) (i : Nat)  (j : Nat → V) : ((body8 L (st8 n f k c s i j)).bind fun r => T.leaf (cutR (lp8 n f k) r)).path [false] = some ([(ilt (Int.ofNat i) (Int.ofNat (dvN k)))], ((.ex 0), ⟨[.und, (iV k), .und, .und, .und, (iV c), .und, .und, .und, .und, .und, (iV s), .und, .und, .und, .und, .und, .und, .und, .und, .und, .und, .und, .und, .und, .und, .und, .und, .und, .und, .und, .und, .und, .und, .und, .und, .und, .und, .und, .und, .und, .und, .und, .und, .und, .und, .und, .und, .und, .und, .und, .und, .und, .und, .und, .und, .und, .und, .und, .und, .und, .und, .und, .und, .und, .und, .und, .und, .und, .und, .und, .und, .und, .und, .und, .und, .und, .und, .und, .und, .und, .und, .und, .und, .und, .und, .und, .und, .und, .und, .und, .und, .und, .und, .und, .und, .und, .und, .und, .und, .und, .und, .und, .und, .und, .und, .und, .und, .und, .und, .und, .und, .und, .und, .und, .und], []⟩)) := by kernel_rfl
theorem rl8a (L : Nat → (St → T (Ex × St)) → St → T (Ex × St)) (n : Nat) (f : Nat → E6) (k : Int) (c s : Int) (i : Nat)  (j : Nat → V) (h0 : ilt (Int.ofNat i) (Int.ofNat (dvN k)) = false) : ((body8 L (st8 n f k c s i j)).bind fun r => T.leaf (cutR (lp8 n f k) r)).sem = some ((.ex 0), ⟨[.und, (iV k), .und, .und, .und, (iV c), .und, .und, .und, .und, .und, (iV s), .und, .und, .und, .und, .und, .und, .und, .und, .und, .und, .und, .und, .und, .und, .und, .und, .und, .und, .und, .und, .und, .und, .und, .und, .und, .und, .und, .und, .und, .und, .und, .und, .und, .und, .und, .und, .und, .und, .und, .und, .und, .und, .und, .und, .und, .und, .und, .und, .und, .und, .und, .und, .und, .und, .und, .und, .und, .und, .und, .und, .und, .und, .und, .und, .und, .und, .und, .und, .und, .und, .und, .und, .und, .und, .und, .und, .und, .und, .und, .und, .und, .und, .und, .und, .und, .und, .und, .und, .und, .und, .und, .und, .und, .und, .und, .und, .und, .und, .und, .und, .und, .und, .und, .und], []⟩) := by
  exact sem_of_path (rl8a_p L n f k c s i j) (by simp only [h0] <;> rfl)
theorem rl8n_p (L : Nat → (St → T (Ex × St)) → St → T (Ex × St)) (n : Nat) (f : Nat → E6) (k : Int) (c s : Int) (i : Nat)  (j : Nat → V) : ((body8 L (st8 n f k c s i j)).bind fun r => T.leaf (cutR (lp8 n f k) r)).path [true, true, true, false, false, false, false, true, false, true, false, false, false, false, false, true, true, false, true, true, false, true, false, false, false, false] = some ([(ilt (Int.ofNat i) (Int.ofNat (dvN k))), (band (ile 0 (Int.ofNat i)) (ilt (Int.ofNat i) (Int.ofNat (dvN k)))), (nlt i (dvN k)), (ilt (dvI k i) 1), (ilt (dvI k i) 1), (ilt (dvI k i) 1), (ilt (dvI k i) 1), (band (ile 0 (Int.ofNat i)) (ilt (Int.ofNat i) (Int.ofNat (dvN k)))), (ilt (dvI k i) 1), (nlt i (dvN k)), (ilt (dvI k i) 1), (ieq (dvI k i) 0), (ilt (dvI k i) 1), (ilt (dvI k i) 1), (bnot (ieq (itmod k (dvI k i)) 0)), (band (ile 0 (Int.ofNat i)) (ilt (Int.ofNat i) (Int.ofNat (dvN k)))), (nlt i (dvN k)), (badN (dvI k i)), (band (ile 0 (Int.ofNat i)) (ilt (Int.ofNat i) (Int.ofNat (dvN k)))), (nlt i (dvN k)), (ieq (dvI k i) 0), (allN n (fun _ => Bool.true)), (bnot (ieq 0 0)), (bnot (ieq 0 0)), (bnot (ieq 0 0)), (bnot (ieq (gate2 n f (wr IntKind.i64 (itdiv k (dvI k i))) (cl05 n f (toN (wr IntKind.i64 (itdiv k (dvI k i)))))) 0))], (.nm, ⟨[(.sl 6 n (fun i => (eV (f i)))), (iV k), .und, .und, .und, (iV c), .und, (.ref 0), .und, .und, .und, (iV (wr IntKind.i64 (iadd s (wr IntKind.i64 (imul (totI (dvI k i)) (gate1 n f (wr IntKind.i64 (itdiv k (dvI k i))) (cl05 n f (toN (wr IntKind.i64 (itdiv k (dvI k i))))))))))), (iV (wr IntKind.i64 (iadd (Int.ofNat i) 1))), .und, .und, .und, .und, .und, .und, .und, .und, .und, .und, .und, .und, .und, .und, .und, .und, .und, .und, .und, .und, .und, .und, .und, .und, .und, .und, .und, .und, .und, .und, .und, .und, .und, .und, .und, .und, .und, .und, .und, .und, .und, .und, .und, .und, .und, .und, .und, .und, .und, .und, .und, .und, .und, .und, .und, .und, .und, .und, .und, .und, .und, .und, .und, .und, .und, .und, .und, .und, .und, .und, .und, .und, .und, .und, .und, .und, .und, .und, .und, .und, .und, .und, .und, .und, .und, .und, .und, .und, .und, .und, .und, .und, .und, .und, .und, .und, .und, .und, .und, .und, .und, .und, .und], [(.row 3 1 (dvN k) (fun i => (iV (dvI k i))))]⟩)) := by kernel_rfl
theorem rl8n (L : Nat → (St → T (Ex × St)) → St → T (Ex × St)) (n : Nat) (f : Nat → E6) (k : Int) (c s : Int) (i : Nat)  (j : Nat → V) (h0 : ilt (Int.ofNat i) (Int.ofNat (dvN k)) = true) (h1 : band (ile 0 (Int.ofNat i)) (ilt (Int.ofNat i) (Int.ofNat (dvN k))) = true) (h2 : nlt i (dvN k) = true) (h3 : ilt (dvI k i) 1 = false) (h4 : ieq (dvI k i) 0 = false) (h5 : ieq (itmod k (dvI k i)) 0 = true) (h6 : badN (dvI k i) = false) (h7 : ieq (gate2 n f (wr IntKind.i64 (itdiv k (dvI k i))) (cl05 n f (toN (wr IntKind.i64 (itdiv k (dvI k i)))))) 0 = true) : ((body8 L (st8 n f k c s i j)).bind fun r => T.leaf (cutR (lp8 n f k) r)).sem = some (.nm, ⟨[(.sl 6 n (fun i => (eV (f i)))), (iV k), .und, .und, .und, (iV c), .und, (.ref 0), .und, .und, .und, (iV (wr IntKind.i64 (iadd s (wr IntKind.i64 (imul (totI (dvI k i)) (gate1 n f (wr IntKind.i64 (itdiv k (dvI k i))) (cl05 n f (toN (wr IntKind.i64 (itdiv k (dvI k i))))))))))), (iV (wr IntKind.i64 (iadd (Int.ofNat i) 1))), .und, .und, .und, .und, .und, .und, .und, .und, .und, .und, .und, .und, .und, .und, .und, .und, .und, .und, .und, .und, .und, .und, .und, .und, .und, .und, .und, .und, .und, .und, .und, .und, .und, .und, .und, .und, .und, .und, .und, .und, .und, .und, .und, .und, .und, .und, .und, .und, .und, .und, .und, .und, .und, .und, .und, .und, .und, .und, .und, .und, .und, .und, .und, .und, .und, .und, .und, .und, .und, .und, .und, .und, .und, .und, .und, .und, .und, .und, .und, .und, .und, .und, .und, .und, .und, .und, .und, .und, .und, .und, .und, .und, .und, .und, .und, .und, .und, .und, .und, .und, .und, .und, .und], [(.row 3 1 (dvN k) (fun i => (iV (dvI k i))))]⟩) := by
  exact sem_of_path (rl8n_p L n f k c s i j) (by simp only [h1] <;> simp only [h0, h2, h3, h4, h5, h6, h7, allN_true] <;> rfl)
def jk8 (n : Nat) (f : Nat → E6) (k : Int)  : Nat → V
  | 4 => (bV Bool.false)
  | 6 => (iV (gate2 n f k (cls05 n f (toN k))))
  | 8 => (iV 0)
  | 17 => (.tup [(iV (gate1 n f k (cls05 n f (toN k)))), (iV (gate2 n f k (cls05 n f (toN k))))])
  | 18 => (.sl 6 n (fun i => (eV (f i))))
  | 19 => (iV k)
  | 20 => (.tup [(iV (gate1 n f k (cls05 n f (toN k)))), (iV (gate2 n f k (cls05 n f (toN k))))])
  | 21 => (iV (gate1 n f k (cls05 n f (toN k))))
  | 22 => (iV (gate2 n f k (cls05 n f (toN k))))
  | 23 => (.tup [(.ref 0), (iV 0)])
  | 24 => (iV k)
  | 25 => (.tup [(.ref 0), (iV 0)])
  | 26 => (.ref 0)
  | 27 => (iV 0)
  | 28 => (iV (gate2 n f k (cls05 n f (toN k))))
  | 29 => (bV (bnot (ieq (gate2 n f k (cls05 n f (toN k))) 0)))
  | 46 => (iV 0)
  | 47 => (bV (bnot (ieq 0 0)))
  | 48 => (bV (bnot (ieq 0 0)))
  | 49 => (iV (gate1 n f k (cls05 n f (toN k))))
  | 50 => (bV (ilt 1125899906842624 (gate1 n f k (cls05 n f (toN k)))))
  | 51 => (bV (ilt 1125899906842624 (gate1 n f k (cls05 n f (toN k)))))
  | 52 => (bV (ilt 1125899906842624 (gate1 n f k (cls05 n f (toN k)))))
  | 53 => (bV Bool.true)
  | 54 => (bV (bnot Bool.true))
  | 55 => (bV (bnot Bool.true))
  | _ => undefV

theorem wl8w_p (L : Nat → (St → T (Ex × St)) → St → T (Ex × St)) (p0 : (St → T (Ex × St)) → St → Bool) (n : Nat) (f : Nat → E6) (k : Int) (c s : Int) (i : Nat) : (finF (evalF tab ⟨callT tb8, (onP 0 p0 (en8a n f k c s i) L), Gl⟩ Try.f8 [edgesV n f, iV k] [])).path [true, false, false, false, false, false, false, false, false, false, true] = some ([(allN n (fun _ => Bool.true)), (badN k), (bnot (ieq (gate2 n f k (cls05 n f (toN k))) 0)), (bnot (ieq 0 0)), (bnot (ieq 0 0)), (bnot (ieq 0 0)), (ilt 1125899906842624 (gate1 n f k (cls05 n f (toN k)))), (ilt 1125899906842624 (gate1 n f k (cls05 n f (toN k)))), (ilt 1125899906842624 (gate1 n f k (cls05 n f (toN k)))), (bnot Bool.true), (p0 (body8 (onP 0 p0 (en8a n f k c s i) L)) (st8 n f k (gate1 n f k (cls05 n f (toN k))) 0 0 (jk8 n f k )))], ((bV (ieq s (wr IntKind.i64 (imul k c)))), [])) := by kernel_rfl
theorem wl8w (L : Nat → (St → T (Ex × St)) → St → T (Ex × St)) (p0 : (St → T (Ex × St)) → St → Bool) (n : Nat) (f : Nat → E6) (k : Int) (c s : Int) (i : Nat) (h1 : badN k = false) (h0 : ieq (gate2 n f k (cls05 n f (toN k))) 0 = true) (h2 : ilt 1125899906842624 (gate1 n f k (cls05 n f (toN k))) = false) (hp0 : p0 (body8 (onP 0 p0 (en8a n f k c s i) L)) (st8 n f k (gate1 n f k (cls05 n f (toN k))) 0 0 (jk8 n f k )) = true) : (finF (evalF tab ⟨callT tb8, (onP 0 p0 (en8a n f k c s i) L), Gl⟩ Try.f8 [edgesV n f, iV k] [])).sem = some ((bV (ieq s (wr IntKind.i64 (imul k c)))), []) := by
  exact sem_of_path (wl8w_p L p0 n f k c s i) (by simp only [h1, h0, h2, hp0, allN_true] <;> rfl)

theorem wl10e_p (L : Nat → (St → T (Ex × St)) → St → T (Ex × St)) (n : Nat) (f : Nat → E6) (k : Int) : (finF (evalF tab ⟨callT tbA, L, Gl⟩ Try.f10 [edgesV n f, iV k] [])).path [true, true, true, true, true] = some ([(allN n (fun _ => Bool.true)), (allN n (fun _ => Bool.true)), (bnot (ieq (gate2 n f k (cl05 n f (toN k))) 0)), (ieq (gate2 n f k (cl05 n f (toN k))) (gate2 n f k (cls05 n f (toN k)))), (ieq (gate2 n f k (cl05 n f (toN k))) (gate2 n f k (cls05 n f (toN k))))], ((bV Bool.true), [])) := by kernel_rfl
theorem wl10e (L : Nat → (St → T (Ex × St)) → St → T (Ex × St)) (n : Nat) (f : Nat → E6) (k : Int) (h0 : ieq (gate2 n f k (cl05 n f (toN k))) 0 = false) (h1 : ieq (gate2 n f k (cl05 n f (toN k))) (gate2 n f k (cls05 n f (toN k))) = true) : (finF (evalF tab ⟨callT tbA, L, Gl⟩ Try.f10 [edgesV n f, iV k] [])).sem = some ((bV Bool.true), []) := by
  exact sem_of_path (wl10e_p L n f k) (by simp only [h0, h1, allN_true] <;> rfl)

def lp10 (n : Nat) (f : Nat → E6) (k : Int) : Lp := ⟨[true, true, false, false, false, false, false, false, false, true, true, true, false, false, false, false, false, false, false, false, false, false, false, false, false, false, false, false, false, false, false, false, false, false, false, false, false, false, false, false, false, false, false, false, false, false, false, false, false, false, false, false, false, false, false, false, false, false, false, false, false, false, false, false, false, false, false, false, false, false, false, false, false, false, false, false, false, false, false, false, false, false, false, false, false, false, false, false], 0, [false, false, false, false, false, false, false, false, false, true, true, false, false, false, false, false, false, false, false, false, false, false, false, false, false, false, false, false, false, false, false, false, false, false, false, false, false, false, false, false, false, false, false, false, false, false, false, false, false, false, false, false, false, false, false, false, false, false, false, false, false, false, false, false, false, false, false, false, false, false, false, false, false, false, false, false, false, false, false, false, false, false, false, false, false, false, false, false], 0, toN k + 1⟩
def st10 (n : Nat) (f : Nat → E6) (k : Int) (l c d : Int) (j : Nat → V) : St := ⟨[.sl 6 n (fun i => (eV (f i))), iV k, j 2, j 3, j 4, j 5, j 6, j 7, j 8, iV l, iV c, iV d, j 12, j 13, j 14, j 15, j 16, j 17, j 18, j 19, j 20, j 21, j 22, j 23, j 24, j 25, j 26, j 27, j 28, j 29, j 30, j 31, j 32, j 33, j 34, j 35, j 36, j 37, j 38, j 39, j 40, j 41, j 42, j 43, j 44, j 45, j 46, j 47, j 48, j 49, j 50, j 51, j 52, j 53, j 54, j 55, j 56, j 57, j 58, j 59, j 60, j 61, j 62, j 63, j 64, j 65, j 66, j 67, j 68, j 69, j 70, j 71, j 72, j 73, j 74, j 75, j 76, j 77, j 78, j 79, j 80, j 81, j 82, j 83, j 84, j 85, j 86, j 87], []⟩
def en10a (n : Nat) (f : Nat → E6) (k : Int) (l c d : Int) : Ex × St := (.ex 0, ⟨[.und, .und, .und, .und, .und, .und, .und, .und, .und, iV l, iV c, .und, .und, .und, .und, .und, .und, .und, .und, .und, .und, .und, .und, .und, .und, .und, .und, .und, .und, .und, .und, .und, .und, .und, .und, .und, .und, .und, .und, .und, .und, .und, .und, .und, .und, .und, .und, .und, .und, .und, .und, .und, .und, .und, .und, .und, .und, .und, .und, .und, .und, .und, .und, .und, .und, .und, .und, .und, .und, .und, .und, .und, .und, .und, .und, .und, .und, .und, .und, .und, .und, .und, .und, .und, .und, .und, .und, .und], []⟩)
noncomputable def body10 (L : Nat → (St → T (Ex × St)) → St → T (Ex × St)) : St → T (Ex × St) := fun st => evalC tab ⟨callT tbA, L, Gl⟩ (loopBody Try.f10 0) 0 st
theorem rl10a_p (L : Nat → (St → T (Ex × St)) → St → T (Ex × St)) (n : Nat) (f : Nat → E6) (k : Int) (l c d : Int)  (j : Nat → V) : ((body10 L (st10 n f k l c d j)).bind fun r => T.leaf (cutR (lp10 n f k) r)).path [false] = some ([(ile d k)], ((.ex 0), ⟨[.und, .und, .und, .und, .und, .und, .und, .und, .und, (iV l), (iV c), .und, .und, .und, .und, .und, .und, .und, .und, .und, .und, .und, .und, .und, .und, .und, .und, .und, .und, .und, .und, .und, .und, .und, .und, .und, .und, .und, .und, .und, .und, .und, .und, .und, .und, .und, .und, .und, .und, .und, .und, .und, .und, .und, .und, .und, .und, .und, .und, .und, .und, .und, .und, .und, .und, .und, .und, .und, .und, .und, .und, .und, .und, .und, .und, .und, .und, .und, .und, .und, .und, .und, .und, .und, .und, .und, .und, .und], []⟩)) := by kernel_rfl
theorem rl10a (L : Nat → (St → T (Ex × St)) → St → T (Ex × St)) (n : Nat) (f : Nat → E6) (k : Int) (l c d : Int)  (j : Nat → V) (h0 : ile d k = false) : ((body10 L (st10 n f k l c d j)).bind fun r => T.leaf (cutR (lp10 n f k) r)).sem = some ((.ex 0), ⟨[.und, .und, .und, .und, .und, .und, .und, .und, .und, (iV l), (iV c), .und, .und, .und, .und, .und, .und, .und, .und, .und, .und, .und, .und, .und, .und, .und, .und, .und, .und, .und, .und, .und, .und, .und, .und, .und, .und, .und, .und, .und, .und, .und, .und, .und, .und, .und, .und, .und, .und, .und, .und, .und, .und, .und, .und, .und, .und, .und, .und, .und, .und, .und, .und, .und, .und, .und, .und, .und, .und, .und, .und, .und, .und, .und, .und, .und, .und, .und, .und, .und, .und, .und, .und, .und, .und, .und, .und, .und], []⟩) := by
  exact sem_of_path (rl10a_p L n f k l c d j) (by simp only [h0] <;> rfl)
theorem rl10s_p (L : Nat → (St → T (Ex × St)) → St → T (Ex × St)) (n : Nat) (f : Nat → E6) (k : Int) (l c d : Int)  (j : Nat → V) : ((body10 L (st10 n f k l c d j)).bind fun r => T.leaf (cutR (lp10 n f k) r)).path [true, false, true] = some ([(ile d k), (ieq d 0), (bnot (ieq (itmod k d) 0))], (.nm, ⟨[(.sl 6 n (fun i => (eV (f i)))), (iV k), .und, .und, .und, .und, .und, .und, .und, (iV l), (iV c), (iV (wr IntKind.i64 (iadd d 1))), .und, .und, .und, .und, .und, .und, .und, .und, .und, .und, .und, .und, .und, .und, .und, .und, .und, .und, .und, .und, .und, .und, .und, .und, .und, .und, .und, .und, .und, .und, .und, .und, .und, .und, .und, .und, .und, .und, .und, .und, .und, .und, .und, .und, .und, .und, .und, .und, .und, .und, .und, .und, .und, .und, .und, .und, .und, .und, .und, .und, .und, .und, .und, .und, .und, .und, .und, .und, .und, .und, .und, .und, .und, .und, .und, .und], []⟩)) := by kernel_rfl
theorem rl10s (L : Nat → (St → T (Ex × St)) → St → T (Ex × St)) (n : Nat) (f : Nat → E6) (k : Int) (l c d : Int)  (j : Nat → V) (h0 : ile d k = true) (h1 : ieq d 0 = false) (h2 : ieq (itmod k d) 0 = false) : ((body10 L (st10 n f k l c d j)).bind fun r => T.leaf (cutR (lp10 n f k) r)).sem = some (.nm, ⟨[(.sl 6 n (fun i => (eV (f i)))), (iV k), .und, .und, .und, .und, .und, .und, .und, (iV l), (iV c), (iV (wr IntKind.i64 (iadd d 1))), .und, .und, .und, .und, .und, .und, .und, .und, .und, .und, .und, .und, .und, .und, .und, .und, .und, .und, .und, .und, .und, .und, .und, .und, .und, .und, .und, .und, .und, .und, .und, .und, .und, .und, .und, .und, .und, .und, .und, .und, .und, .und, .und, .und, .und, .und, .und, .und, .und, .und, .und, .und, .und, .und, .und, .und, .und, .und, .und, .und, .und, .und, .und, .und, .und, .und, .und, .und, .und, .und, .und, .und, .und, .und, .und, .und], []⟩) := by
  exact sem_of_path (rl10s_p L n f k l c d j) (by simp only [h0, h1, h2] <;> rfl)
theorem rl10t_p (L : Nat → (St → T (Ex × St)) → St → T (Ex × St)) (n : Nat) (f : Nat → E6) (k : Int) (l c d : Int)  (j : Nat → V) : ((body10 L (st10 n f k l c d j)).bind fun r => T.leaf (cutR (lp10 n f k) r)).path [true, false, false, true, false, false, false, false, false, false, false, false, false, false, false, false, false, false, false] = some ([(ile d k), (ieq d 0), (bnot (ieq (itmod k d) 0)), (allN n (fun _ => Bool.true)), (bnot (ieq (gate2 n f d (wrdC n f (toN d))) 0)), (bnot (ieq (gate2 n f d (wrdC n f (toN d))) 0)), (bnot (ieq (gate2 n f d (wrdC n f (toN d))) 0)), (ilt (gate1 n f d (wrdC n f (toN d))) 0), (ilt (gate1 n f d (wrdC n f (toN d))) 0), (ilt (gate1 n f d (wrdC n f (toN d))) 0), (ilt (gate1 n f d (wrdC n f (toN d))) 0), (ieq d 0), (ilt (gate1 n f d (wrdC n f (toN d))) 0), (ilt (gate1 n f d (wrdC n f (toN d))) 0), (ilt (wr IntKind.i64 (itdiv l d)) (gate1 n f d (wrdC n f (toN d)))), (ilt (wr IntKind.i64 (itdiv l d)) (gate1 n f d (wrdC n f (toN d)))), (ilt (wr IntKind.i64 (itdiv l d)) (gate1 n f d (wrdC n f (toN d)))), (ilt (wr IntKind.i64 (itdiv l d)) (gate1 n f d (wrdC n f (toN d)))), (ilt c (gate1 n f d (wrdC n f (toN d))))], (.nm, ⟨[(.sl 6 n (fun i => (eV (f i)))), (iV k), .und, .und, .und, .und, .und, .und, .und, (iV (wr IntKind.i64 (isub l (wr IntKind.i64 (imul d (gate1 n f d (wrdC n f (toN d)))))))), (iV (wr IntKind.i64 (isub c (gate1 n f d (wrdC n f (toN d)))))), (iV (wr IntKind.i64 (iadd d 1))), .und, .und, .und, .und, .und, .und, .und, .und, .und, .und, .und, .und, .und, .und, .und, .und, .und, .und, .und, .und, .und, .und, .und, .und, .und, .und, .und, .und, .und, .und, .und, .und, .und, .und, .und, .und, .und, .und, .und, .und, .und, .und, .und, .und, .und, .und, .und, .und, .und, .und, .und, .und, .und, .und, .und, .und, .und, .und, .und, .und, .und, .und, .und, .und, .und, .und, .und, .und, .und, .und, .und, .und, .und, .und, .und, .und], []⟩)) := by kernel_rfl
theorem rl10t (L : Nat → (St → T (Ex × St)) → St → T (Ex × St)) (n : Nat) (f : Nat → E6) (k : Int) (l c d : Int)  (j : Nat → V) (h0 : ile d k = true) (h1 : ieq d 0 = false) (h2 : ieq (itmod k d) 0 = true) (h3 : ieq (gate2 n f d (wrdC n f (toN d))) 0 = true) (h4 : ilt (gate1 n f d (wrdC n f (toN d))) 0 = false) (h5 : ilt (wr IntKind.i64 (itdiv l d)) (gate1 n f d (wrdC n f (toN d))) = false) (h6 : ilt c (gate1 n f d (wrdC n f (toN d))) = false) : ((body10 L (st10 n f k l c d j)).bind fun r => T.leaf (cutR (lp10 n f k) r)).sem = some (.nm, ⟨[(.sl 6 n (fun i => (eV (f i)))), (iV k), .und, .und, .und, .und, .und, .und, .und, (iV (wr IntKind.i64 (isub l (wr IntKind.i64 (imul d (gate1 n f d (wrdC n f (toN d)))))))), (iV (wr IntKind.i64 (isub c (gate1 n f d (wrdC n f (toN d)))))), (iV (wr IntKind.i64 (iadd d 1))), .und, .und, .und, .und, .und, .und, .und, .und, .und, .und, .und, .und, .und, .und, .und, .und, .und, .und, .und, .und, .und, .und, .und, .und, .und, .und, .und, .und, .und, .und, .und, .und, .und, .und, .und, .und, .und, .und, .und, .und, .und, .und, .und, .und, .und, .und, .und, .und, .und, .und, .und, .und, .und, .und, .und, .und, .und, .und, .und, .und, .und, .und, .und, .und, .und, .und, .und, .und, .und, .und, .und, .und, .und, .und, .und, .und], []⟩) := by
  exact sem_of_path (rl10t_p L n f k l c d j) (by simp only [h0, h1, h2, h3, h4, h5, h6, allN_true] <;> rfl)
def jk10 (n : Nat) (f : Nat → E6) (k : Int)  : Nat → V
  | 4 => (bV Bool.false)
  | 5 => (iV (gate1 n f k (cl05 n f (toN k))))
  | 6 => (iV (gate2 n f k (cl05 n f (toN k))))
  | 7 => (iV (gate1 n f k (cls05 n f (toN k))))
  | 8 => (iV (gate2 n f k (cls05 n f (toN k))))
  | 14 => (.tup [(iV (gate1 n f k (cl05 n f (toN k)))), (iV (gate2 n f k (cl05 n f (toN k))))])
  | 15 => (.sl 6 n (fun i => (eV (f i))))
  | 16 => (iV k)
  | 17 => (.tup [(iV (gate1 n f k (cl05 n f (toN k)))), (iV (gate2 n f k (cl05 n f (toN k))))])
  | 18 => (iV (gate1 n f k (cl05 n f (toN k))))
  | 19 => (iV (gate2 n f k (cl05 n f (toN k))))
  | 20 => (.tup [(iV (gate1 n f k (cls05 n f (toN k)))), (iV (gate2 n f k (cls05 n f (toN k))))])
  | 21 => (.sl 6 n (fun i => (eV (f i))))
  | 22 => (iV k)
  | 23 => (.tup [(iV (gate1 n f k (cls05 n f (toN k)))), (iV (gate2 n f k (cls05 n f (toN k))))])
  | 24 => (iV (gate1 n f k (cls05 n f (toN k))))
  | 25 => (iV (gate2 n f k (cls05 n f (toN k))))
  | 26 => (iV (gate2 n f k (cl05 n f (toN k))))
  | 27 => (bV (bnot (ieq (gate2 n f k (cl05 n f (toN k))) 0)))
  | 34 => (iV (gate2 n f k (cls05 n f (toN k))))
  | 35 => (bV (bnot (ieq (gate2 n f k (cls05 n f (toN k))) 0)))
  | 36 => (iV (gate1 n f k (cl05 n f (toN k))))
  | 37 => (iV (gate1 n f k (cls05 n f (toN k))))
  | _ => undefV

theorem wl10w_p (L : Nat → (St → T (Ex × St)) → St → T (Ex × St)) (p0 : (St → T (Ex × St)) → St → Bool) (n : Nat) (f : Nat → E6) (k : Int) (l c d : Int) : (finF (evalF tab ⟨callT tbA, (onP 0 p0 (en10a n f k l c d) L), Gl⟩ Try.f10 [edgesV n f, iV k] [])).path [true, true, false, false, true, true, true, true, true, true] = some ([(allN n (fun _ => Bool.true)), (allN n (fun _ => Bool.true)), (bnot (ieq (gate2 n f k (cl05 n f (toN k))) 0)), (bnot (ieq (gate2 n f k (cls05 n f (toN k))) 0)), (p0 (body10 (onP 0 p0 (en10a n f k l c d) L)) (st10 n f k (gate1 n f k (cl05 n f (toN k))) (gate1 n f k (cls05 n f (toN k))) 1 (jk10 n f k ))), (ieq l 0), (ieq l 0), (ieq l 0), (ieq c 0), (ieq c 0)], ((bV Bool.true), [])) := by kernel_rfl
theorem wl10w (L : Nat → (St → T (Ex × St)) → St → T (Ex × St)) (p0 : (St → T (Ex × St)) → St → Bool) (n : Nat) (f : Nat → E6) (k : Int) (l c d : Int) (h0 : ieq (gate2 n f k (cl05 n f (toN k))) 0 = true) (h1 : ieq (gate2 n f k (cls05 n f (toN k))) 0 = true) (h2 : ieq l 0 = true) (h3 : ieq c 0 = true) (hp0 : p0 (body10 (onP 0 p0 (en10a n f k l c d) L)) (st10 n f k (gate1 n f k (cl05 n f (toN k))) (gate1 n f k (cls05 n f (toN k))) 1 (jk10 n f k )) = true) : (finF (evalF tab ⟨callT tbA, (onP 0 p0 (en10a n f k l c d) L), Gl⟩ Try.f10 [edgesV n f, iV k] [])).sem = some ((bV Bool.true), []) := by
  exact sem_of_path (wl10w_p L p0 n f k l c d) (by simp only [h0, h1, h2, h3, hp0, allN_true] <;> rfl)


/-! ### Burnside -/

def dvOK (k : Nat) : Bool := (List.range (dvN (Int.ofNat k))).all fun i => decide (1 ≤ dvI (Int.ofNat k) i) && (decide (dvI (Int.ofNat k) i ≤ Int.ofNat k) && Nat.beq (k % toN (dvI (Int.ofNat k) i)) 0)

theorem dvOKs : (List.range 17).all dvOK = true := by decide +kernel

theorem dv_facts (k : Nat) (hk : k ≤ 16) (i : Nat) (hi : i < dvN (Int.ofNat k)) : ∃ d : Nat, dvI (Int.ofNat k) i = Int.ofNat d ∧ 1 ≤ d ∧ d ≤ k ∧ k % d = 0 := by
  have h := List.all_eq_true.1 (List.all_eq_true.1 dvOKs k (by simp; omega)) i (List.mem_range.2 hi)
  simp only [Bool.and_eq_true, decide_eq_true_eq] at h
  obtain ⟨h1, h2, h3⟩ := h
  obtain ⟨d, hd⟩ := Int.eq_ofNat_of_zero_le (show (0 : Int) ≤ dvI (Int.ofNat k) i by omega)
  have e : dvI (Int.ofNat k) i = Int.ofNat d := hd
  rw [e] at h1 h2 h3
  exact ⟨d, e, by simp at h1; omega, by simp at h2; omega, Nat.eq_of_beq_eq_true h3⟩

/-- The sum over the first i divisors. -/
def sumB (g : Nat → Int) (k : Nat) : Nat → Int
  | 0 => 0
  | i + 1 => sumB g k i + totI (dvI (Int.ofNat k) i) * g (k / toN (dvI (Int.ofNat k) i))

theorem sumB_all (g : Nat → Int) (k : Nat) (h1 : 1 ≤ k) (hk : k ≤ 16) : sumB g k (dvN (Int.ofNat k)) = sumC g k k := by
  rcases nat16 h1 hk with rfl | rfl | rfl | rfl | rfl | rfl | rfl | rfl | rfl | rfl | rfl | rfl | rfl | rfl | rfl | rfl <;> rfl

theorem sumB_step (g : Nat → Int) (k : Nat) (hk : k ≤ 16) (hg : ∀ d, 0 ≤ g d) (i : Nat) (hi : i < dvN (Int.ofNat k)) : 0 ≤ totI (dvI (Int.ofNat k) i) * g (k / toN (dvI (Int.ofNat k) i)) := by
  obtain ⟨d, e, _⟩ := dv_facts k hk i hi
  rw [e]
  exact Int.mul_nonneg (totI_le d).1 (hg _)

theorem sumB_nonneg (g : Nat → Int) (k : Nat) (hk : k ≤ 16) (hg : ∀ d, 0 ≤ g d) : ∀ i, i ≤ dvN (Int.ofNat k) → 0 ≤ sumB g k i
  | 0, _ => Int.le_refl _
  | i + 1, h => by
    have a := sumB_nonneg g k hk hg i (by omega)
    have b := sumB_step g k hk hg i (by omega)
    unfold sumB
    omega

theorem sumB_mono (g : Nat → Int) (k : Nat) (hk : k ≤ 16) (hg : ∀ d, 0 ≤ g d) : ∀ t i, i + t ≤ dvN (Int.ofNat k) → sumB g k i ≤ sumB g k (i + t)
  | 0, _, _ => Int.le_refl _
  | t + 1, i, h => by
    have a := sumB_mono g k hk hg t i (by omega)
    have b := sumB_step g k hk hg (i + t) (by omega)
    rw [show i + (t + 1) = (i + t) + 1 from rfl, sumB]
    omega

theorem cl_nn (n : Nat) (f : Nat → E6) (d : Nat) : 0 ≤ cl05 n f d := trI_nonneg _ _

theorem burnside (n : Nat) (f : Nat → E6) (k : Nat) (h1 : 1 ≤ k) (hk : k ≤ 16) : sumB (cl05 n f) k (dvN (Int.ofNat k)) = Int.ofNat k * cls05 n f k := by
  rw [sumB_all _ k h1 hk, sumC_all (cl05 n f) k h1 hk fun e e1 e2 _ => wrd_mul (natM n f) e e1 (by omega)]
  rfl

theorem dvN_le (k : Nat) (hk : k ≤ 16) : dvN (Int.ofNat k) ≤ 16 := by
  have h : (List.range 17).all (fun k => decide (dvN (Int.ofNat k) ≤ 16)) = true := by decide +kernel
  exact of_decide_eq_true (List.all_eq_true.1 h k (by simp; omega))

set_option maxHeartbeats 1000000 in
theorem run8 (L : Nat → (St → T (Ex × St)) → St → T (Ex × St)) (n : Nat) (f : Nat → E6) (h128 : ilt 128 (Int.ofNat n) = false) (hm : mayN n f = true) (k : Nat) (h1 : 1 ≤ k) (hk : k ≤ 16) (hs : cl05 n f k < 9223372036854775808) (c : Int) (hc : cls05 n f k ≤ 1125899906842624) : ∀ (e i : Nat) (j : Nat → V) (q : Nat), dvN (Int.ofNat k) = i + e → e < q →
    (iterT (body8 L) (lp8 n f (Int.ofNat k)) q (st8 n f (Int.ofNat k) c (sumB (cl05 n f) k i) i j)).sem = some (en8a n f (Int.ofNat k) c (Int.ofNat k * cls05 n f k) 0)
  | 0, i, j, q + 1, h, _ => by
    have hi : dvN (Int.ofNat k) = i := by omega
    have hb := burnside n f k h1 hk
    rw [hi] at hb
    rw [hb]
    exact iter_round (rl8a L n f _ _ _ i j (by rw [hi]; exact ofNat_ge (Nat.le_refl _)))
  | e + 1, i, j, q + 1, h, h2 => by
    have hi : i < dvN (Int.ofNat k) := by omega
    obtain ⟨d, ed, d1, d2, d3⟩ := dv_facts k hk i hi
    have hdv : wr IntKind.i64 (itdiv (Int.ofNat k) (Int.ofNat d)) = Int.ofNat (k / d) := div_wr k d hk
    have hkd := Nat.div_le_self k d
    have hkd1 : 1 ≤ k / d := Nat.div_pos d2 d1
    have hkm : k % (k / d) = 0 := by
      have := Nat.dvd_of_mod_eq_zero d3
      exact Nat.mod_eq_zero_of_dvd (Nat.div_dvd_of_dvd this)
    have hle : cl05 n f (k / d) ≤ cl05 n f k := cl_dvd (natM n f) k (k / d) h1 hk hkm hkd1 hkd
    have hg := gate_in n f h128 hm (k / d) hkd1 (by omega) (cl05 n f (k / d))
    rw [le_false (by omega)] at hg
    have hg : gateR n f (Int.ofNat (k / d)) (cl05 n f (k / d)) = (cl05 n f (k / d), 0) := hg
    have hb := burnside n f k h1 hk
    have hup := sumB_mono (cl05 n f) k hk (cl_nn n f) (dvN (Int.ofNat k) - (i + 1)) (i + 1) (by omega)
    rw [show i + 1 + (dvN (Int.ofNat k) - (i + 1)) = dvN (Int.ofNat k) by omega, hb] at hup
    have h0 := sumB_nonneg (cl05 n f) k hk (cl_nn n f) i (by omega)
    have hst := sumB_step (cl05 n f) k hk (cl_nn n f) i hi
    have hS : sumB (cl05 n f) k (i + 1) = sumB (cl05 n f) k i + totI (Int.ofNat d) * cl05 n f (k / d) := by rw [sumB, ed]; rfl
    rw [ed] at hst
    have hst : 0 ≤ totI (Int.ofNat d) * cl05 n f (k / d) := hst
    have hkc : Int.ofNat k * cls05 n f k ≤ 16 * 1125899906842624 := Int.mul_le_mul (show Int.ofNat k ≤ 16 by simp; omega) hc (cls_bound (natM n f) k h1 hk).1 (by omega)
    have hbad : badN (Int.ofNat d) = false := by
      unfold badN
      rw [lt_false (show (1 : Int) ≤ Int.ofNat d by simp; omega), lt_false (show Int.ofNat d ≤ 1048576 by simp; omega)]
      rfl
    have ht : toN (Int.ofNat (k / d)) = k / d := rfl
    rw [iter_round (rl8n L n f (Int.ofNat k) c _ i j (ofNat_lt hi) (ofNat_in hi) (nlt_true hi) (by rw [ed]; exact lt_false (by simp; omega)) (by rw [ed]; exact ieq_false (by simp; omega)) (by rw [ed, ieq_mod]; exact decide_eq_true d3) (by rw [ed]; exact hbad)
      (by rw [ed, hdv, ht]; unfold gate2; rw [hg]; rfl)), goOn_nm, ed, hdv, ht, succ_wr (show i < 17 by have := dvN_le k hk; omega) (by omega)]
    have es : wr IntKind.i64 (iadd (sumB (cl05 n f) k i) (wr IntKind.i64 (imul (totI (Int.ofNat d)) (gate1 n f (Int.ofNat (k / d)) (cl05 n f (k / d)))))) = sumB (cl05 n f) k (i + 1) := by
      unfold gate1
      rw [hg, hS]
      rw [hS] at hup
      generalize hpp : totI (Int.ofNat d) * cl05 n f (k / d) = p at *
      rw [show imul (totI (Int.ofNat d)) (cl05 n f (k / d), (0 : Int)).1 = p from hpp, wr_i p hst (by omega)]
      exact wr_i _ (by unfold iadd; omega) (by unfold iadd; omega)
    rw [es]
    exact run8 L n f h128 hm k h1 hk hs c hc e (i + 1) (fun _ => .und) q (by omega) (by omega)

theorem p8 : PureC Try.prog Gl 8 lawNT := by
  refine pureC_intro tabOK mixed Try.func8 (by kernel_rfl) (by kernel_rfl) fun vs v h' h => ?_
  obtain ⟨n, f, k, hA, hn, hr⟩ := lawNT_some h
  simp only [Prod.mk.injEq] at hr
  obtain ⟨rfl, rfl⟩ := hr
  have hx := cx_ok tb8_ok [(0, lp8 n f k)]
  have hL := loopsBy_le [(0, lp8 n f k)]
  refine ⟨_, cxOf Gl tb8 [(0, lp8 n f k)], _, hA, rfl, hx.1, hx.2, ?_, RowsLE.refl _⟩
  rcases gate_cases n f k with ⟨e, he, hg⟩ | ⟨hg, h1, hn', hm, h2, h3, h4⟩
  · have g2 : ieq (gate2 n f k (cls05 n f (toN k))) 0 = false := by unfold gate2; rw [hg]; exact ieq_false he
    have g1 : ieq (gate1 n f k (cls05 n f (toN k))) 0 = true := by unfold gate1; rw [hg]; rfl
    cases hb : badN k with
    | true => exact wl8e _ n f k hb g2 (ieq_self _) g1
    | false => exact wl8d _ n f k hb g2 (ieq_self _) g1
  · obtain ⟨j, hj⟩ := Int.eq_ofNat_of_zero_le (show (0 : Int) ≤ k by omega)
    have hj : k = Int.ofNat j := hj
    subst hj
    have hj1 : 1 ≤ j := by omega
    have hj2 : j ≤ 16 := by omega
    have hbad : badN (Int.ofNat j) = false := by
      unfold badN
      rw [lt_false h2, lt_false (show Int.ofNat j ≤ 1048576 by simp; omega)]
      rfl
    have g2 : ieq (gate2 n f (Int.ofNat j) (cls05 n f (toN (Int.ofNat j)))) 0 = true := by unfold gate2; rw [hg]; rfl
    have g1 : gate1 n f (Int.ofNat j) (cls05 n f (toN (Int.ofNat j))) = cls05 n f j := by unfold gate1; rw [hg]; rfl
    by_cases hc : cls05 n f j ≤ 1125899906842624
    · have hb := cls_bound (natM n f) j hj1 hj2
      have hb0 : 0 ≤ cls05 n f j := hb.1
      have hkc : Int.ofNat j * cls05 n f j ≤ 16 * 1125899906842624 := Int.mul_le_mul (show Int.ofNat j ≤ 16 by simp; omega) hc hb0 (by omega)
      have hk0 : 0 ≤ Int.ofNat j * cls05 n f j := Int.mul_nonneg (by simp) hb0
      have hw := wl8w (loopsBy [(0, lp8 n f (Int.ofNat j))]) (isP (loopsBy [(0, lp8 n f (Int.ofNat j))]) 0 (en8a n f (Int.ofNat j) (cls05 n f j) (Int.ofNat j * cls05 n f j) 0)) n f (Int.ofNat j) (cls05 n f j) (Int.ofNat j * cls05 n f j) 0 hbad g2 (by rw [g1]; exact lt_false hc) (isP_true (by
        rw [g1]
        exact run8 _ n f h1 hm j hj1 hj2 h4 (cls05 n f j) hc (dvN (Int.ofNat j)) 0 _ (dvN (Int.ofNat j) + 1) (by omega) (by omega)))
      rw [show wr IntKind.i64 (imul (Int.ofNat j) (cls05 n f j)) = Int.ofNat j * cls05 n f j from wr_i _ hk0 (by unfold imul; omega), ieq_self] at hw
      exact told_le (onP_le hL hL) _ hw
    · exact wl8g _ n f (Int.ofNat j) hbad g2 (by rw [g1]; exact lt_true (by omega))

/-! ### Words -/

set_option maxHeartbeats 1000000 in
theorem run10 (L : Nat → (St → T (Ex × St)) → St → T (Ex × St)) (n : Nat) (f : Nat → E6) (h128 : ilt 128 (Int.ofNat n) = false) (hm : mayN n f = true) (k : Nat) (h1 : 1 ≤ k) (hk : k ≤ 16) (hs : cl05 n f k < 9223372036854775808) : ∀ (e d : Nat) (j : Nat → V) (q : Nat), k = d + e → e < q →
    (iterT (body10 L) (lp10 n f (Int.ofNat k)) q (st10 n f (Int.ofNat k) (cl05 n f k - sumW (wrdN (cl05 n f)) k d) (cls05 n f k - sum1 (wrdN (cl05 n f)) k d) (Int.ofNat (d + 1)) j)).sem = some (en10a n f (Int.ofNat k) 0 0 0) := by
  have hO : ∀ e, 1 ≤ e → e ≤ k → k % e = 0 → Int.ofNat e * wrdN (cl05 n f) e = mobN (cl05 n f) e := fun e e1 e2 _ => wrd_mul (natM n f) e e1 (by omega)
  have hall := sumW_all (cl05 n f) k h1 hk hO
  have hW : ∀ e, 1 ≤ e → e ≤ k → k % e = 0 → 0 ≤ wrdN (cl05 n f) e := fun e e1 e2 _ => wrd_nonneg (natM n f) e e1 (by omega)
  have hcl0 := cl_nn n f k
  have hc1 : cls05 n f k = sum1 (wrdN (cl05 n f)) k k := rfl
  have hcb : cls05 n f k ≤ cl05 n f k := (cls_bound (natM n f) k h1 hk).2
  have hle : ∀ d, 1 ≤ d → d ≤ k → k % d = 0 → cl05 n f d ≤ cl05 n f k := fun d d1 d2 d3 => cl_dvd (natM n f) k d h1 hk d3 d1 d2
  have hin := fun d (d1 : 1 ≤ d) (d2 : d ≤ 16) x => gate_in n f h128 hm d d1 d2 x
  have mono1 : ∀ t d, d + t ≤ k → sum1 (wrdN (cl05 n f)) k d ≤ sum1 (wrdN (cl05 n f)) k (d + t) := by
    intro t
    induction t with
    | zero => intro d _; exact Int.le_refl _
    | succ t ih =>
      intro d hd
      refine Int.le_trans (ih d (by omega)) ?_
      show _ ≤ sum1 (wrdN (cl05 n f)) k (d + t + 1)
      rw [sum1]
      split
      · rename_i h
        have := hW (d + t + 1) (by omega) (by omega) h
        omega
      · exact Int.le_refl _
  generalize hgx : cl05 n f = g at *
  intro e
  induction e with
  | zero =>
    intro d j q he hq
    obtain ⟨q, rfl⟩ : ∃ k, q = k + 1 := ⟨q - 1, by omega⟩
    have hd : k = d := by omega
    subst hd
    rw [hall, ← hc1, Int.sub_self, Int.sub_self]
    exact iter_round (rl10a L n f _ 0 0 _ j (ofNat_gt (by omega)))
  | succ e ih =>
    intro d j q he hq
    obtain ⟨q, rfl⟩ : ∃ k, q = k + 1 := ⟨q - 1, by omega⟩
    have hz : ieq (Int.ofNat (d + 1)) 0 = false := ieq_false (by simp; omega)
    by_cases hd : k % (d + 1) = 0
    · have hup := sumW_mono (wrdN g) k hW (k - (d + 1)) (d + 1) (by omega)
      have h0 := sumW_nonneg (wrdN g) k hW d (by omega)
      rw [show d + 1 + (k - (d + 1)) = k by omega, hall] at hup
      have hs1 : sumW (wrdN g) k (d + 1) = sumW (wrdN g) k d + Int.ofNat (d + 1) * wrdN g (d + 1) := by rw [sumW, if_pos hd]
      have hup1 := mono1 (k - (d + 1)) (d + 1) (by omega)
      rw [show d + 1 + (k - (d + 1)) = k by omega, ← hc1] at hup1
      have hs2 : sum1 (wrdN g) k (d + 1) = sum1 (wrdN g) k d + wrdN g (d + 1) := by rw [sum1, if_pos hd]
      have hw0 := hW (d + 1) (by omega) (by omega) hd
      have h10 : 0 ≤ sum1 (wrdN g) k d := (sum1_le (wrdN g) k hW d (by omega)).1
      have hp := Int.mul_nonneg (show (0 : Int) ≤ Int.ofNat (d + 1) by simp; omega) hw0
      have hld := hle (d + 1) (by omega) (by omega) hd
      have hg := hin (d + 1) (by omega) (by omega) (wrdN g (d + 1))
      rw [le_false (by omega)] at hg
      have hg : gateR n f (Int.ofNat (d + 1)) (wrdN g (d + 1)) = (wrdN g (d + 1), 0) := hg
      have ew : wrdC n f (toN (Int.ofNat (d + 1))) = wrdN g (d + 1) := by unfold wrdC; rw [hgx]; rfl
      have g1 : gate1 n f (Int.ofNat (d + 1)) (wrdC n f (toN (Int.ofNat (d + 1)))) = wrdN g (d + 1) := by rw [ew]; unfold gate1; rw [hg]
      have g2 : ieq (gate2 n f (Int.ofNat (d + 1)) (wrdC n f (toN (Int.ofNat (d + 1))))) 0 = true := by rw [ew]; unfold gate2; rw [hg]; rfl
      have hl0 : 0 ≤ g k - sumW (wrdN g) k d := by omega
      have hdiv : wrdN g (d + 1) ≤ (g k - sumW (wrdN g) k d) / Int.ofNat (d + 1) := by
        refine Int.le_ediv_of_mul_le (show (0 : Int) < Int.ofNat (d + 1) by exact Int.natCast_pos.2 (Nat.succ_pos d)) ?_
        rw [Int.mul_comm]
        omega
      have hq0 : 0 ≤ (g k - sumW (wrdN g) k d) / Int.ofNat (d + 1) := Int.ediv_nonneg hl0 (by simp; omega)
      have hq1 := Int.ediv_le_self (Int.ofNat (d + 1)) hl0
      have ed : wr IntKind.i64 (itdiv (g k - sumW (wrdN g) k d) (Int.ofNat (d + 1))) = (g k - sumW (wrdN g) k d) / Int.ofNat (d + 1) := by
        unfold itdiv
        rw [Int.tdiv_eq_ediv_of_nonneg hl0]
        exact wr_i _ hq0 (by omega)
      rw [iter_round (rl10t L n f (Int.ofNat k) _ _ (Int.ofNat (d + 1)) j (ofNat_le (by omega)) hz (by rw [ieq_mod]; exact decide_eq_true hd) g2 (by rw [g1]; exact lt_false hw0) (by rw [g1, ed]; exact lt_false hdiv) (by rw [g1]; exact lt_false (by omega))), goOn_nm, g1, succ_wr (show d + 1 < k + 1 by omega) (by omega)]
      have e1 : wr IntKind.i64 (isub (g k - sumW (wrdN g) k d) (wr IntKind.i64 (imul (Int.ofNat (d + 1)) (wrdN g (d + 1))))) = g k - sumW (wrdN g) k (d + 1) := by
        rw [hs1]
        rw [hs1] at hup
        generalize hpp : Int.ofNat (d + 1) * wrdN g (d + 1) = p at *
        rw [show imul (Int.ofNat (d + 1)) (wrdN g (d + 1)) = p from hpp, wr_i p hp (by omega), wr_i _ (by unfold isub; omega) (by unfold isub; omega)]
        unfold isub
        omega
      have e2 : wr IntKind.i64 (isub (cls05 n f k - sum1 (wrdN g) k d) (wrdN g (d + 1))) = cls05 n f k - sum1 (wrdN g) k (d + 1) := by
        rw [hs2] at hup1 ⊢
        rw [wr_i _ (by unfold isub; omega) (by unfold isub; omega)]
        unfold isub
        omega
      rw [e1, e2]
      exact ih (d + 1) (fun _ => .und) q (by omega) (by omega)
    · rw [iter_round (rl10s L n f (Int.ofNat k) _ _ (Int.ofNat (d + 1)) j (ofNat_le (by omega)) hz (by rw [ieq_mod]; exact decide_eq_false hd)), goOn_nm, succ_wr (show d + 1 < k + 1 by omega) (by omega),
        show sumW (wrdN g) k d = sumW (wrdN g) k (d + 1) by rw [sumW, if_neg hd], show sum1 (wrdN g) k d = sum1 (wrdN g) k (d + 1) by rw [sum1, if_neg hd]]
      exact ih (d + 1) (fun _ => .und) q (by omega) (by omega)

theorem p10c : PureC Try.prog Gl 10 lawNT := by
  refine pureC_intro tabOK mixed Try.func10 (by kernel_rfl) (by kernel_rfl) fun vs v h' h => ?_
  obtain ⟨n, f, k, hA, hn, hr⟩ := lawNT_some h
  simp only [Prod.mk.injEq] at hr
  obtain ⟨rfl, rfl⟩ := hr
  have hx := cx_ok tbA_ok [(0, lp10 n f k)]
  have hL := loopsBy_le [(0, lp10 n f k)]
  refine ⟨_, cxOf Gl tbA [(0, lp10 n f k)], _, hA, rfl, hx.1, hx.2, ?_, RowsLE.refl _⟩
  rcases gate_cases n f k with ⟨e, he, hg⟩ | ⟨hg, h1, hn', hm, h2, h3, h4⟩
  · have g2 : gate2 n f k (cl05 n f (toN k)) = e := by unfold gate2; rw [hg]
    have g3 : gate2 n f k (cls05 n f (toN k)) = e := by unfold gate2; rw [hg]
    exact wl10e _ n f k (by rw [g2]; exact ieq_false he) (by rw [g2, g3]; exact ieq_self _)
  · obtain ⟨j, hj⟩ := Int.eq_ofNat_of_zero_le (show (0 : Int) ≤ k by omega)
    have hj : k = Int.ofNat j := hj
    subst hj
    have hj1 : 1 ≤ j := by omega
    have hj2 : j ≤ 16 := by omega
    have g2 : ieq (gate2 n f (Int.ofNat j) (cl05 n f (toN (Int.ofNat j)))) 0 = true := by unfold gate2; rw [hg]; rfl
    have g3 : ieq (gate2 n f (Int.ofNat j) (cls05 n f (toN (Int.ofNat j)))) 0 = true := by unfold gate2; rw [hg]; rfl
    have g4 : gate1 n f (Int.ofNat j) (cl05 n f (toN (Int.ofNat j))) = cl05 n f j := by unfold gate1; rw [hg]; rfl
    have g5 : gate1 n f (Int.ofNat j) (cls05 n f (toN (Int.ofNat j))) = cls05 n f j := by unfold gate1; rw [hg]; rfl
    refine told_le (onP_le hL hL) _ (wl10w _ _ n f (Int.ofNat j) 0 0 0 g2 g3 rfl rfl (isP_true ?_))
    rw [g4, g5]
    have := run10 (onP 0 (isP (loopsBy [(0, lp10 n f (Int.ofNat j))]) 0 (en10a n f (Int.ofNat j) 0 0 0)) (en10a n f (Int.ofNat j) 0 0 0) (loopsBy [(0, lp10 n f (Int.ofNat j))])) n f h1 hm j hj1 hj2 h4 j 0 (jk10 n f (Int.ofNat j)) (j + 1) (by omega) (by omega)
    rw [show cl05 n f j - sumW (wrdN (cl05 n f)) j 0 = cl05 n f j by unfold sumW; omega, show cls05 n f j - sum1 (wrdN (cl05 n f)) j 0 = cls05 n f j by unfold sum1; omega] at this
    exact this

end Go.Proofs.Ytdmjcpindopjdaa.Co
