/-
  Numbers held against one another, marked; the law CycleNumbers as a function. No conditions.
-/
import Derived.Test.YtcaljjnadbpacaaDoorCyZ
import Derived.Test.YtcaljjnadbpacaaDoorCyP
namespace Go.Proofs.YtcaljjnadbpacaaDoor.Ed
open Go.Sy Go

def lp99 (n : Nat) (f : Nat → Int) (m : Nat) (g : Nat → Int) : Lp := ⟨[true, true, false, false, true, true, false, false, false, false, false, false, false, false, false, false, false, false, false, false, false, false, false, false, false, false, false, false, false, false, false, false, false, false, false, false, false, false, false, false, false, false, false, false, false, false], 0, [true, true, false, false, true, false, false, false, false, false, false, false, false, false, false, false, false, false, false, false, false, false, false, false, false, false, false, false, false, false, false, false, false, false, false, false, false, false, false, false, false, false, false, false, false, false], 0, n + 1⟩
def st99 (n : Nat) (f : Nat → Int) (m : Nat) (g : Nat → Int) (i : Nat) (j : Nat → V) : St := ⟨[.sl 1 n fun k => iV (f k), .sl 1 m fun k => iV (g k), j 2, j 3, iV 0, iV (Int.ofNat i), j 6, j 7, j 8, j 9, j 10, j 11, j 12, j 13, j 14, j 15, j 16, j 17, j 18, j 19, j 20, j 21, j 22, j 23, j 24, j 25, j 26, j 27, j 28, j 29, j 30, j 31, j 32, j 33, j 34, j 35, j 36, j 37, j 38, j 39, j 40, j 41, j 42, j 43, j 44, j 45], []⟩
def en99l (n : Nat) (f : Nat → Int) (m : Nat) (g : Nat → Int) (i : Nat) : Ex × St := (.rt, ⟨[.sl 1 n fun k => iV (f k), .sl 1 m fun k => iV (g k), .und, .und, iV (-1), .und, .und, .und, .und, .und, .und, .und, .und, .und, .und, .und, .und, .und, .und, .und, .und, .und, .und, .und, .und, .und, .und, .und, .und, .und, .und, .und, .und, .und, .und, .und, .und, .und, .und, .und, .und, .und, .und, .und, .und, .und], []⟩)
def en99g (n : Nat) (f : Nat → Int) (m : Nat) (g : Nat → Int) (i : Nat) : Ex × St := (.rt, ⟨[.sl 1 n fun k => iV (f k), .sl 1 m fun k => iV (g k), .und, .und, iV 1, .und, .und, .und, .und, .und, .und, .und, .und, .und, .und, .und, .und, .und, .und, .und, .und, .und, .und, .und, .und, .und, .und, .und, .und, .und, .und, .und, .und, .und, .und, .und, .und, .und, .und, .und, .und, .und, .und, .und, .und, .und], []⟩)
def en99e (n : Nat) (f : Nat → Int) (m : Nat) (g : Nat → Int) (i : Nat) : Ex × St := (.ex 0, ⟨[.sl 1 n fun k => iV (f k), .sl 1 m fun k => iV (g k), .und, .und, iV 0, .und, .und, .und, .und, .und, .und, .und, .und, .und, .und, .und, .und, .und, .und, .und, .und, .und, .und, .und, .und, .und, .und, .und, .und, .und, .und, .und, .und, .und, .und, .und, .und, .und, .und, .und, .und, .und, .und, .und, .und, .und], []⟩)
noncomputable def body99 (L : Nat → (St → T (Ex × St)) → St → T (Ex × St)) : St → T (Ex × St) := fun st => evalC tab ⟨callT tb0, L, Gl⟩ (loopBody Tryd.f99 0) 0 st
theorem rc99e_p (L : Nat → (St → T (Ex × St)) → St → T (Ex × St)) (n : Nat) (f : Nat → Int) (m : Nat) (g : Nat → Int) (i : Nat)  (j : Nat → V) : ((body99 L (st99 n f m g i j)).bind fun r => T.leaf (cutR (lp99 n f m g) r)).path [false, false, false, false, false, false] = some ([(ilt (Int.ofNat i) (Int.ofNat n)), (ilt (Int.ofNat i) (Int.ofNat n)), (ilt (Int.ofNat i) (Int.ofNat n)), (ilt (Int.ofNat i) (Int.ofNat n)), (ilt (Int.ofNat i) (Int.ofNat n)), Bool.false], ((.ex 0), ⟨[(.sl 1 n (fun k => (iV (f k)))), (.sl 1 m (fun k => (iV (g k)))), .und, .und, (iV 0), .und, .und, .und, .und, .und, .und, .und, .und, .und, .und, .und, .und, .und, .und, .und, .und, .und, .und, .und, .und, .und, .und, .und, .und, .und, .und, .und, .und, .und, .und, .und, .und, .und, .und, .und, .und, .und, .und, .und, .und, .und], []⟩)) := by kernel_rfl
theorem rc99e (L : Nat → (St → T (Ex × St)) → St → T (Ex × St)) (n : Nat) (f : Nat → Int) (m : Nat) (g : Nat → Int) (i : Nat)  (j : Nat → V) (h0 : ilt (Int.ofNat i) (Int.ofNat n) = false) : ((body99 L (st99 n f m g i j)).bind fun r => T.leaf (cutR (lp99 n f m g) r)).sem = some ((.ex 0), ⟨[(.sl 1 n (fun k => (iV (f k)))), (.sl 1 m (fun k => (iV (g k)))), .und, .und, (iV 0), .und, .und, .und, .und, .und, .und, .und, .und, .und, .und, .und, .und, .und, .und, .und, .und, .und, .und, .und, .und, .und, .und, .und, .und, .und, .und, .und, .und, .und, .und, .und, .und, .und, .und, .und, .und, .und, .und, .und, .und, .und], []⟩) := by
  exact sem_of_path (rc99e_p L n f m g i j) (by simp only [h0] <;> rfl)
theorem rc99m_p (L : Nat → (St → T (Ex × St)) → St → T (Ex × St)) (n : Nat) (f : Nat → Int) (m : Nat) (g : Nat → Int) (i : Nat)  (j : Nat → V) : ((body99 L (st99 n f m g i j)).bind fun r => T.leaf (cutR (lp99 n f m g) r)).path [true, true, true, true, true, false] = some ([(ilt (Int.ofNat i) (Int.ofNat n)), (ilt (Int.ofNat i) (Int.ofNat n)), (ilt (Int.ofNat i) (Int.ofNat n)), (ilt (Int.ofNat i) (Int.ofNat n)), (ilt (Int.ofNat i) (Int.ofNat n)), (ilt (Int.ofNat i) (Int.ofNat m))], ((.ex 0), ⟨[(.sl 1 n (fun k => (iV (f k)))), (.sl 1 m (fun k => (iV (g k)))), .und, .und, (iV 0), .und, .und, .und, .und, .und, .und, .und, .und, .und, .und, .und, .und, .und, .und, .und, .und, .und, .und, .und, .und, .und, .und, .und, .und, .und, .und, .und, .und, .und, .und, .und, .und, .und, .und, .und, .und, .und, .und, .und, .und, .und], []⟩)) := by kernel_rfl
theorem rc99m (L : Nat → (St → T (Ex × St)) → St → T (Ex × St)) (n : Nat) (f : Nat → Int) (m : Nat) (g : Nat → Int) (i : Nat)  (j : Nat → V) (h0 : ilt (Int.ofNat i) (Int.ofNat n) = true) (h1 : ilt (Int.ofNat i) (Int.ofNat m) = false) : ((body99 L (st99 n f m g i j)).bind fun r => T.leaf (cutR (lp99 n f m g) r)).sem = some ((.ex 0), ⟨[(.sl 1 n (fun k => (iV (f k)))), (.sl 1 m (fun k => (iV (g k)))), .und, .und, (iV 0), .und, .und, .und, .und, .und, .und, .und, .und, .und, .und, .und, .und, .und, .und, .und, .und, .und, .und, .und, .und, .und, .und, .und, .und, .und, .und, .und, .und, .und, .und, .und, .und, .und, .und, .und, .und, .und, .und, .und, .und, .und], []⟩) := by
  exact sem_of_path (rc99m_p L n f m g i j) (by simp only [h0, h1] <;> rfl)
theorem rc99l_p (L : Nat → (St → T (Ex × St)) → St → T (Ex × St)) (n : Nat) (f : Nat → Int) (m : Nat) (g : Nat → Int) (i : Nat)  (j : Nat → V) : ((body99 L (st99 n f m g i j)).bind fun r => T.leaf (cutR (lp99 n f m g) r)).path [true, true, true, true, true, true, true, true, true] = some ([(ilt (Int.ofNat i) (Int.ofNat n)), (ilt (Int.ofNat i) (Int.ofNat n)), (ilt (Int.ofNat i) (Int.ofNat n)), (ilt (Int.ofNat i) (Int.ofNat n)), (ilt (Int.ofNat i) (Int.ofNat n)), (ilt (Int.ofNat i) (Int.ofNat m)), (band (ile 0 (Int.ofNat i)) (ilt (Int.ofNat i) (Int.ofNat n))), (band (ile 0 (Int.ofNat i)) (ilt (Int.ofNat i) (Int.ofNat m))), (ilt (f i) (g i))], (.rt, ⟨[(.sl 1 n (fun k => (iV (f k)))), (.sl 1 m (fun k => (iV (g k)))), .und, .und, (iV (-1)), .und, .und, .und, .und, .und, .und, .und, .und, .und, .und, .und, .und, .und, .und, .und, .und, .und, .und, .und, .und, .und, .und, .und, .und, .und, .und, .und, .und, .und, .und, .und, .und, .und, .und, .und, .und, .und, .und, .und, .und, .und], []⟩)) := by kernel_rfl
theorem rc99l (L : Nat → (St → T (Ex × St)) → St → T (Ex × St)) (n : Nat) (f : Nat → Int) (m : Nat) (g : Nat → Int) (i : Nat)  (j : Nat → V) (h0 : ilt (Int.ofNat i) (Int.ofNat n) = true) (h1 : ilt (Int.ofNat i) (Int.ofNat m) = true) (h12 : ile 0 (Int.ofNat i) = true) (h2 : ilt (f i) (g i) = true) : ((body99 L (st99 n f m g i j)).bind fun r => T.leaf (cutR (lp99 n f m g) r)).sem = some (.rt, ⟨[(.sl 1 n (fun k => (iV (f k)))), (.sl 1 m (fun k => (iV (g k)))), .und, .und, (iV (-1)), .und, .und, .und, .und, .und, .und, .und, .und, .und, .und, .und, .und, .und, .und, .und, .und, .und, .und, .und, .und, .und, .und, .und, .und, .und, .und, .und, .und, .und, .und, .und, .und, .und, .und, .und, .und, .und, .und, .und, .und, .und], []⟩) := by
  exact sem_of_path (rc99l_p L n f m g i j) (by simp only [h0, h1, h12, h2] <;> rfl)
theorem rc99g_p (L : Nat → (St → T (Ex × St)) → St → T (Ex × St)) (n : Nat) (f : Nat → Int) (m : Nat) (g : Nat → Int) (i : Nat)  (j : Nat → V) : ((body99 L (st99 n f m g i j)).bind fun r => T.leaf (cutR (lp99 n f m g) r)).path [true, true, true, true, true, true, true, true, false, true, true, true] = some ([(ilt (Int.ofNat i) (Int.ofNat n)), (ilt (Int.ofNat i) (Int.ofNat n)), (ilt (Int.ofNat i) (Int.ofNat n)), (ilt (Int.ofNat i) (Int.ofNat n)), (ilt (Int.ofNat i) (Int.ofNat n)), (ilt (Int.ofNat i) (Int.ofNat m)), (band (ile 0 (Int.ofNat i)) (ilt (Int.ofNat i) (Int.ofNat n))), (band (ile 0 (Int.ofNat i)) (ilt (Int.ofNat i) (Int.ofNat m))), (ilt (f i) (g i)), (band (ile 0 (Int.ofNat i)) (ilt (Int.ofNat i) (Int.ofNat n))), (band (ile 0 (Int.ofNat i)) (ilt (Int.ofNat i) (Int.ofNat m))), (ilt (g i) (f i))], (.rt, ⟨[(.sl 1 n (fun k => (iV (f k)))), (.sl 1 m (fun k => (iV (g k)))), .und, .und, (iV 1), .und, .und, .und, .und, .und, .und, .und, .und, .und, .und, .und, .und, .und, .und, .und, .und, .und, .und, .und, .und, .und, .und, .und, .und, .und, .und, .und, .und, .und, .und, .und, .und, .und, .und, .und, .und, .und, .und, .und, .und, .und], []⟩)) := by kernel_rfl
theorem rc99g (L : Nat → (St → T (Ex × St)) → St → T (Ex × St)) (n : Nat) (f : Nat → Int) (m : Nat) (g : Nat → Int) (i : Nat)  (j : Nat → V) (h0 : ilt (Int.ofNat i) (Int.ofNat n) = true) (h1 : ilt (Int.ofNat i) (Int.ofNat m) = true) (h13 : ile 0 (Int.ofNat i) = true) (h2 : ilt (f i) (g i) = false) (h3 : ilt (g i) (f i) = true) : ((body99 L (st99 n f m g i j)).bind fun r => T.leaf (cutR (lp99 n f m g) r)).sem = some (.rt, ⟨[(.sl 1 n (fun k => (iV (f k)))), (.sl 1 m (fun k => (iV (g k)))), .und, .und, (iV 1), .und, .und, .und, .und, .und, .und, .und, .und, .und, .und, .und, .und, .und, .und, .und, .und, .und, .und, .und, .und, .und, .und, .und, .und, .und, .und, .und, .und, .und, .und, .und, .und, .und, .und, .und, .und, .und, .und, .und, .und, .und], []⟩) := by
  exact sem_of_path (rc99g_p L n f m g i j) (by simp only [h0, h1, h13, h2, h3] <;> rfl)
theorem rc99n_p (L : Nat → (St → T (Ex × St)) → St → T (Ex × St)) (n : Nat) (f : Nat → Int) (m : Nat) (g : Nat → Int) (i : Nat)  (j : Nat → V) : ((body99 L (st99 n f m g i j)).bind fun r => T.leaf (cutR (lp99 n f m g) r)).path [true, true, true, true, true, true, true, true, false, true, true, false] = some ([(ilt (Int.ofNat i) (Int.ofNat n)), (ilt (Int.ofNat i) (Int.ofNat n)), (ilt (Int.ofNat i) (Int.ofNat n)), (ilt (Int.ofNat i) (Int.ofNat n)), (ilt (Int.ofNat i) (Int.ofNat n)), (ilt (Int.ofNat i) (Int.ofNat m)), (band (ile 0 (Int.ofNat i)) (ilt (Int.ofNat i) (Int.ofNat n))), (band (ile 0 (Int.ofNat i)) (ilt (Int.ofNat i) (Int.ofNat m))), (ilt (f i) (g i)), (band (ile 0 (Int.ofNat i)) (ilt (Int.ofNat i) (Int.ofNat n))), (band (ile 0 (Int.ofNat i)) (ilt (Int.ofNat i) (Int.ofNat m))), (ilt (g i) (f i))], (.nm, ⟨[(.sl 1 n (fun k => (iV (f k)))), (.sl 1 m (fun k => (iV (g k)))), .und, .und, (iV 0), (iV (wr IntKind.i64 (iadd (Int.ofNat i) 1))), .und, .und, .und, .und, .und, .und, .und, .und, .und, .und, .und, .und, .und, .und, .und, .und, .und, .und, .und, .und, .und, .und, .und, .und, .und, .und, .und, .und, .und, .und, .und, .und, .und, .und, .und, .und, .und, .und, .und, .und], []⟩)) := by kernel_rfl
theorem rc99n (L : Nat → (St → T (Ex × St)) → St → T (Ex × St)) (n : Nat) (f : Nat → Int) (m : Nat) (g : Nat → Int) (i : Nat)  (j : Nat → V) (h0 : ilt (Int.ofNat i) (Int.ofNat n) = true) (h1 : ilt (Int.ofNat i) (Int.ofNat m) = true) (h13 : ile 0 (Int.ofNat i) = true) (h2 : ilt (f i) (g i) = false) (h3 : ilt (g i) (f i) = false) : ((body99 L (st99 n f m g i j)).bind fun r => T.leaf (cutR (lp99 n f m g) r)).sem = some (.nm, ⟨[(.sl 1 n (fun k => (iV (f k)))), (.sl 1 m (fun k => (iV (g k)))), .und, .und, (iV 0), (iV (wr IntKind.i64 (iadd (Int.ofNat i) 1))), .und, .und, .und, .und, .und, .und, .und, .und, .und, .und, .und, .und, .und, .und, .und, .und, .und, .und, .und, .und, .und, .und, .und, .und, .und, .und, .und, .und, .und, .und, .und, .und, .und, .und, .und, .und, .und, .und, .und, .und], []⟩) := by
  exact sem_of_path (rc99n_p L n f m g i j) (by simp only [h0, h1, h13, h2, h3] <;> rfl)
def jk99 (n : Nat) (f : Nat → Int) (m : Nat) (g : Nat → Int)  : Nat → V
  | _ => undefV

theorem wc99l_p (L : Nat → (St → T (Ex × St)) → St → T (Ex × St)) (p0 : (St → T (Ex × St)) → St → Bool) (n : Nat) (f : Nat → Int) (m : Nat) (g : Nat → Int) (i : Nat) : (finF (evalF tab ⟨callT tb0, (onP 0 p0 (en99l n f m g i) L), Gl⟩ Tryd.f99 [intsV n f, intsV m g] [])).path [true] = some ([(p0 (body99 (onP 0 p0 (en99l n f m g i) L)) (st99 n f m g 0 (jk99 n f m g )))], ((iV (-1)), [])) := by kernel_rfl
theorem wc99l (L : Nat → (St → T (Ex × St)) → St → T (Ex × St)) (p0 : (St → T (Ex × St)) → St → Bool) (n : Nat) (f : Nat → Int) (m : Nat) (g : Nat → Int) (i : Nat)  (hp0 : p0 (body99 (onP 0 p0 (en99l n f m g i) L)) (st99 n f m g 0 (jk99 n f m g )) = true) : (finF (evalF tab ⟨callT tb0, (onP 0 p0 (en99l n f m g i) L), Gl⟩ Tryd.f99 [intsV n f, intsV m g] [])).sem = some ((iV (-1)), []) := by
  exact sem_of_path (wc99l_p L p0 n f m g i) (by simp only [hp0] <;> rfl)

theorem wc99g_p (L : Nat → (St → T (Ex × St)) → St → T (Ex × St)) (p0 : (St → T (Ex × St)) → St → Bool) (n : Nat) (f : Nat → Int) (m : Nat) (g : Nat → Int) (i : Nat) : (finF (evalF tab ⟨callT tb0, (onP 0 p0 (en99g n f m g i) L), Gl⟩ Tryd.f99 [intsV n f, intsV m g] [])).path [true] = some ([(p0 (body99 (onP 0 p0 (en99g n f m g i) L)) (st99 n f m g 0 (jk99 n f m g )))], ((iV 1), [])) := by kernel_rfl
theorem wc99g (L : Nat → (St → T (Ex × St)) → St → T (Ex × St)) (p0 : (St → T (Ex × St)) → St → Bool) (n : Nat) (f : Nat → Int) (m : Nat) (g : Nat → Int) (i : Nat)  (hp0 : p0 (body99 (onP 0 p0 (en99g n f m g i) L)) (st99 n f m g 0 (jk99 n f m g )) = true) : (finF (evalF tab ⟨callT tb0, (onP 0 p0 (en99g n f m g i) L), Gl⟩ Tryd.f99 [intsV n f, intsV m g] [])).sem = some ((iV 1), []) := by
  exact sem_of_path (wc99g_p L p0 n f m g i) (by simp only [hp0] <;> rfl)

theorem wc99a_p (L : Nat → (St → T (Ex × St)) → St → T (Ex × St)) (p0 : (St → T (Ex × St)) → St → Bool) (n : Nat) (f : Nat → Int) (m : Nat) (g : Nat → Int) (i : Nat) : (finF (evalF tab ⟨callT tb0, (onP 0 p0 (en99e n f m g i) L), Gl⟩ Tryd.f99 [intsV n f, intsV m g] [])).path [true, true] = some ([(p0 (body99 (onP 0 p0 (en99e n f m g i) L)) (st99 n f m g 0 (jk99 n f m g ))), (ilt (Int.ofNat n) (Int.ofNat m))], ((iV (-1)), [])) := by kernel_rfl
theorem wc99a (L : Nat → (St → T (Ex × St)) → St → T (Ex × St)) (p0 : (St → T (Ex × St)) → St → Bool) (n : Nat) (f : Nat → Int) (m : Nat) (g : Nat → Int) (i : Nat) (h0 : ilt (Int.ofNat n) (Int.ofNat m) = true) (hp0 : p0 (body99 (onP 0 p0 (en99e n f m g i) L)) (st99 n f m g 0 (jk99 n f m g )) = true) : (finF (evalF tab ⟨callT tb0, (onP 0 p0 (en99e n f m g i) L), Gl⟩ Tryd.f99 [intsV n f, intsV m g] [])).sem = some ((iV (-1)), []) := by
  exact sem_of_path (wc99a_p L p0 n f m g i) (by simp only [hp0] <;> simp only [h0] <;> rfl)

theorem wc99b_p (L : Nat → (St → T (Ex × St)) → St → T (Ex × St)) (p0 : (St → T (Ex × St)) → St → Bool) (n : Nat) (f : Nat → Int) (m : Nat) (g : Nat → Int) (i : Nat) : (finF (evalF tab ⟨callT tb0, (onP 0 p0 (en99e n f m g i) L), Gl⟩ Tryd.f99 [intsV n f, intsV m g] [])).path [true, false, true] = some ([(p0 (body99 (onP 0 p0 (en99e n f m g i) L)) (st99 n f m g 0 (jk99 n f m g ))), (ilt (Int.ofNat n) (Int.ofNat m)), (ilt (Int.ofNat m) (Int.ofNat n))], ((iV 1), [])) := by kernel_rfl
theorem wc99b (L : Nat → (St → T (Ex × St)) → St → T (Ex × St)) (p0 : (St → T (Ex × St)) → St → Bool) (n : Nat) (f : Nat → Int) (m : Nat) (g : Nat → Int) (i : Nat) (h0 : ilt (Int.ofNat n) (Int.ofNat m) = false) (h1 : ilt (Int.ofNat m) (Int.ofNat n) = true) (hp0 : p0 (body99 (onP 0 p0 (en99e n f m g i) L)) (st99 n f m g 0 (jk99 n f m g )) = true) : (finF (evalF tab ⟨callT tb0, (onP 0 p0 (en99e n f m g i) L), Gl⟩ Tryd.f99 [intsV n f, intsV m g] [])).sem = some ((iV 1), []) := by
  exact sem_of_path (wc99b_p L p0 n f m g i) (by simp only [hp0] <;> simp only [h0, h1] <;> rfl)

theorem wc99c_p (L : Nat → (St → T (Ex × St)) → St → T (Ex × St)) (p0 : (St → T (Ex × St)) → St → Bool) (n : Nat) (f : Nat → Int) (m : Nat) (g : Nat → Int) (i : Nat) : (finF (evalF tab ⟨callT tb0, (onP 0 p0 (en99e n f m g i) L), Gl⟩ Tryd.f99 [intsV n f, intsV m g] [])).path [true, false, false] = some ([(p0 (body99 (onP 0 p0 (en99e n f m g i) L)) (st99 n f m g 0 (jk99 n f m g ))), (ilt (Int.ofNat n) (Int.ofNat m)), (ilt (Int.ofNat m) (Int.ofNat n))], ((iV 0), [])) := by kernel_rfl
theorem wc99c (L : Nat → (St → T (Ex × St)) → St → T (Ex × St)) (p0 : (St → T (Ex × St)) → St → Bool) (n : Nat) (f : Nat → Int) (m : Nat) (g : Nat → Int) (i : Nat) (h0 : ilt (Int.ofNat n) (Int.ofNat m) = false) (h1 : ilt (Int.ofNat m) (Int.ofNat n) = false) (hp0 : p0 (body99 (onP 0 p0 (en99e n f m g i) L)) (st99 n f m g 0 (jk99 n f m g )) = true) : (finF (evalF tab ⟨callT tb0, (onP 0 p0 (en99e n f m g i) L), Gl⟩ Tryd.f99 [intsV n f, intsV m g] [])).sem = some ((iV 0), []) := by
  exact sem_of_path (wc99c_p L p0 n f m g i) (by simp only [hp0] <;> simp only [h0, h1] <;> rfl)

theorem run99 (L : Nat → (St → T (Ex × St)) → St → T (Ex × St)) (n : Nat) (f : Nat → Int) (m : Nat) (g : Nat → Int) (hn : n ≤ 4611686018427387904) (hm : m ≤ 4611686018427387904) : ∀ (d i : Nat) (j : Nat → V) (q : Nat), min n m = i + d → d < q →
    (iterT (body99 L) (lp99 n f m g) q (st99 n f m g i j)).sem = some (match cmpK f g d i with | .lt => en99l n f m g 0 | .gt => en99g n f m g 0 | .eq => en99e n f m g 0)
  | 0, i, j, q + 1, h, _ => by
    by_cases h3 : i < n
    · exact iter_round (rc99m L n f m g i j (ofNat_lt h3) (ofNat_ge (by omega)))
    · exact iter_round (rc99e L n f m g i j (ofNat_ge (by omega)))
  | d + 1, i, j, q + 1, h, h2 => by
    have h3 : i < n := by omega
    have h4 : i < m := by omega
    unfold cmpK
    by_cases c1 : f i < g i
    · rw [if_pos c1]
      exact iter_round (rc99l L n f m g i j (ofNat_lt h3) (ofNat_lt h4) (ile_0 i) (by simp [ilt, c1]))
    · have c1' : ilt (f i) (g i) = false := by simp only [ilt, decide_eq_false c1]
      rw [if_neg c1]
      by_cases c2 : g i < f i
      · rw [if_pos c2]
        exact iter_round (rc99g L n f m g i j (ofNat_lt h3) (ofNat_lt h4) (ile_0 i) c1' (by simp [ilt, c2]))
      · have c2' : ilt (g i) (f i) = false := by simp only [ilt, decide_eq_false c2]
        rw [if_neg c2, iter_round (rc99n L n f m g i j (ofNat_lt h3) (ofNat_lt h4) (ile_0 i) c1' c2'), goOn_nm, succ_wr h3 hn]
        exact run99 L n f m g hn hm d (i + 1) (fun _ => .und) q (by omega) (by omega)

theorem p99 : PureC Tryd.prog Gl 99 cmpIT := by
  refine pureC_intro tabOK mixed Tryd.func99 (by kernel_rfl) (by kernel_rfl) fun vs v h' h => ?_
  obtain ⟨n, f, m, g, ha, h1⟩ := apI2_some h
  obtain ⟨hn, h2⟩ := sem_br_fail h1
  obtain ⟨hm, h3⟩ := sem_br_fail h2
  have := sem_leaf h3
  simp only [Prod.mk.injEq] at this
  obtain ⟨rfl, rfl⟩ := this
  have hn : n ≤ 4611686018427387904 := of_decide_eq_true hn
  have hm : m ≤ 4611686018427387904 := of_decide_eq_true hm
  have hx := cx_ok tb0_ok [(0, lp99 n f m g)]
  have hL := loopsBy_le [(0, lp99 n f m g)]
  have hr := fun L j => run99 L n f m g hn hm (min n m) 0 j (n + 1) (by omega) (by omega)
  refine ⟨_, cxOf Gl tb0 [(0, lp99 n f m g)], _, ha, rfl, hx.1, hx.2, ?_, RowsLE.refl _⟩
  unfold cmpI
  cases hc : cmpK f g (min n m) 0 with
  | lt =>
    rw [hc] at hr
    exact told_le (onP_le hL hL) _ (wc99l _ _ n f m g 0 (isP_true (hr _ _)))
  | gt =>
    rw [hc] at hr
    exact told_le (onP_le hL hL) _ (wc99g _ _ n f m g 0 (isP_true (hr _ _)))
  | eq =>
    rw [hc] at hr
    by_cases c1 : n < m
    · simp only [if_pos c1]
      exact told_le (onP_le hL hL) _ (wc99a _ _ n f m g 0 (by rw [ilt_nat, decide_eq_true c1]) (isP_true (hr _ _)))
    · by_cases c2 : m < n
      · simp only [if_neg c1, if_pos c2]
        exact told_le (onP_le hL hL) _ (wc99b _ _ n f m g 0 (by rw [ilt_nat, decide_eq_false c1]) (by rw [ilt_nat, decide_eq_true c2]) (isP_true (hr _ _)))
      · simp only [if_neg c1, if_neg c2]
        exact told_le (onP_le hL hL) _ (wc99c _ _ n f m g 0 (by rw [ilt_nat, decide_eq_false c1]) (by rw [ilt_nat, decide_eq_false c2]) (isP_true (hr _ _)))

noncomputable def tb55 : List (Nat × (List V → T (V × List Blk))) := [(99, cmpIT)]
theorem tb55_ok : AllPure Tryd.prog Gl tb55 := .cons p99 .nil

theorem wc55_p (L : Nat → (St → T (Ex × St)) → St → T (Ex × St)) (n : Nat) (f : Nat → Int) (m : Nat) (g : Nat → Int) : (finF (evalF tab ⟨callT tb55, L, Gl⟩ Tryd.f55 [intsV n f, intsV m g] [])).path [true, true, true, true] = some ([(allN n (fun _ => Bool.true)), (allN m (fun _ => Bool.true)), (smallN n), (smallN m)], ((bV (ieq (cmpI n f m g) 0)), [])) := by kernel_rfl
theorem wc55 (L : Nat → (St → T (Ex × St)) → St → T (Ex × St)) (n : Nat) (f : Nat → Int) (m : Nat) (g : Nat → Int) (h12 : smallN n = true) (h13 : smallN m = true) : (finF (evalF tab ⟨callT tb55, L, Gl⟩ Tryd.f55 [intsV n f, intsV m g] [])).sem = some ((bV (ieq (cmpI n f m g) 0)), []) := by
  exact sem_of_path (wc55_p L n f m g) (by simp only [h12, h13, allN_true] <;> rfl)

def alikeI : List V → T (V × List Blk) := apI2 fun n f m g => .br (smallN n) (.br (smallN m) (out (bV (ieq (cmpI n f m g) 0))) .fail) .fail

theorem p55 : PureC Tryd.prog Gl 55 alikeI := by
  refine pureC_intro tabOK mixed Tryd.func55 (by kernel_rfl) (by kernel_rfl) fun vs v h' h => ?_
  obtain ⟨n, f, m, g, ha, h1⟩ := apI2_some h
  obtain ⟨hn, h2⟩ := sem_br_fail h1
  obtain ⟨hm, h3⟩ := sem_br_fail h2
  have := sem_leaf h3
  simp only [Prod.mk.injEq] at this
  obtain ⟨rfl, rfl⟩ := this
  have hx := cx_ok tb55_ok []
  exact ⟨_, cxOf Gl tb55 [], _, ha, rfl, hx.1, hx.2, wc55 _ n f m g hn hm, RowsLE.refl _⟩

def lp59 (n : Nat) (f : Nat → Int) (k : Int) : Lp := ⟨[true, true, false, false, true, true, false, false, false, false, false, false, false, false, false, false, false, false, false], 0, [false, false, false, false, true, false, false, false, false, false, false, false, false, false, false, false, false, false, false], 0, n + 1⟩
def st59 (n : Nat) (f : Nat → Int) (k : Int) (i : Nat) (j : Nat → V) : St := ⟨[.sl 1 n fun k => iV (f k), iV k, j 2, j 3, bV false, iV (Int.ofNat i), j 6, j 7, j 8, j 9, j 10, j 11, j 12, j 13, j 14, j 15, j 16, j 17, j 18], []⟩
def en59e (n : Nat) (f : Nat → Int) (k : Int) (i : Nat) : Ex × St := (.ex 0, ⟨[.und, .und, .und, .und, bV false, .und, .und, .und, .und, .und, .und, .und, .und, .und, .und, .und, .und, .und, .und], []⟩)
noncomputable def body59 (L : Nat → (St → T (Ex × St)) → St → T (Ex × St)) : St → T (Ex × St) := fun st => evalC tab ⟨callT tb0, L, Gl⟩ (loopBody Tryd.f59 0) 0 st
theorem rc59e_p (L : Nat → (St → T (Ex × St)) → St → T (Ex × St)) (n : Nat) (f : Nat → Int) (k : Int) (i : Nat)  (j : Nat → V) : ((body59 L (st59 n f k i j)).bind fun r => T.leaf (cutR (lp59 n f k) r)).path [false] = some ([(ilt (Int.ofNat i) (Int.ofNat n))], ((.ex 0), ⟨[.und, .und, .und, .und, (bV Bool.false), .und, .und, .und, .und, .und, .und, .und, .und, .und, .und, .und, .und, .und, .und], []⟩)) := by kernel_rfl
theorem rc59e (L : Nat → (St → T (Ex × St)) → St → T (Ex × St)) (n : Nat) (f : Nat → Int) (k : Int) (i : Nat)  (j : Nat → V) (h0 : ilt (Int.ofNat i) (Int.ofNat n) = false) : ((body59 L (st59 n f k i j)).bind fun r => T.leaf (cutR (lp59 n f k) r)).sem = some ((.ex 0), ⟨[.und, .und, .und, .und, (bV Bool.false), .und, .und, .und, .und, .und, .und, .und, .und, .und, .und, .und, .und, .und, .und], []⟩) := by
  exact sem_of_path (rc59e_p L n f k i j) (by simp only [h0] <;> rfl)
theorem rc59n_p (L : Nat → (St → T (Ex × St)) → St → T (Ex × St)) (n : Nat) (f : Nat → Int) (k : Int) (i : Nat)  (j : Nat → V) : ((body59 L (st59 n f k i j)).bind fun r => T.leaf (cutR (lp59 n f k) r)).path [true, true, false] = some ([(ilt (Int.ofNat i) (Int.ofNat n)), (band (ile 0 (Int.ofNat i)) (ilt (Int.ofNat i) (Int.ofNat n))), (bnot (ieq (f i) (wr IntKind.i64 (isub (-1000000) k))))], (.nm, ⟨[(.sl 1 n (fun k => (iV (f k)))), (iV k), .und, .und, (bV Bool.false), (iV (wr IntKind.i64 (iadd (Int.ofNat i) 1))), .und, .und, .und, .und, .und, .und, .und, .und, .und, .und, .und, .und, .und], []⟩)) := by kernel_rfl
theorem rc59n (L : Nat → (St → T (Ex × St)) → St → T (Ex × St)) (n : Nat) (f : Nat → Int) (k : Int) (i : Nat)  (j : Nat → V) (h0 : ilt (Int.ofNat i) (Int.ofNat n) = true) (h14 : ile 0 (Int.ofNat i) = true) (h1 : ieq (f i) (wr IntKind.i64 (isub (-1000000) k)) = true) : ((body59 L (st59 n f k i j)).bind fun r => T.leaf (cutR (lp59 n f k) r)).sem = some (.nm, ⟨[(.sl 1 n (fun k => (iV (f k)))), (iV k), .und, .und, (bV Bool.false), (iV (wr IntKind.i64 (iadd (Int.ofNat i) 1))), .und, .und, .und, .und, .und, .und, .und, .und, .und, .und, .und, .und, .und], []⟩) := by
  exact sem_of_path (rc59n_p L n f k i j) (by simp only [h0, h14, h1] <;> rfl)
def jk59 (n : Nat) (f : Nat → Int) (k : Int)  : Nat → V
  | _ => undefV

theorem wc59_p (L : Nat → (St → T (Ex × St)) → St → T (Ex × St)) (p0 : (St → T (Ex × St)) → St → Bool) (n : Nat) (f : Nat → Int) (k : Int) (i : Nat) : (finF (evalF tab ⟨callT tb0, (onP 0 p0 (en59e n f k i) L), Gl⟩ Tryd.f59 [intsV n f, iV k] [])).path [true] = some ([(p0 (body59 (onP 0 p0 (en59e n f k i) L)) (st59 n f k 0 (jk59 n f k )))], ((bV Bool.true), [])) := by kernel_rfl
theorem wc59 (L : Nat → (St → T (Ex × St)) → St → T (Ex × St)) (p0 : (St → T (Ex × St)) → St → Bool) (n : Nat) (f : Nat → Int) (k : Int) (i : Nat)  (hp0 : p0 (body59 (onP 0 p0 (en59e n f k i) L)) (st59 n f k 0 (jk59 n f k )) = true) : (finF (evalF tab ⟨callT tb0, (onP 0 p0 (en59e n f k i) L), Gl⟩ Tryd.f59 [intsV n f, iV k] [])).sem = some ((bV Bool.true), []) := by
  exact sem_of_path (wc59_p L p0 n f k i) (by simp only [hp0] <;> rfl)

theorem run59 (L : Nat → (St → T (Ex × St)) → St → T (Ex × St)) (n : Nat) (f : Nat → Int) (k : Int) (hn : n ≤ 4611686018427387904) (hf : ∀ i, i < n → ieq (f i) (wr IntKind.i64 (isub (-1000000) k)) = true) : ∀ (d i : Nat) (j : Nat → V) (q : Nat), n = i + d → d < q →
    (iterT (body59 L) (lp59 n f k) q (st59 n f k i j)).sem = some (en59e n f k n)
  | 0, i, j, q + 1, h, _ => by
    have : n = i := by omega
    subst this
    exact iter_round (rc59e L n f k n j (ofNat_ge (Nat.le_refl _)))
  | d + 1, i, j, q + 1, h, h2 => by
    have hi : i < n := by omega
    rw [iter_round (rc59n L n f k i j (ofNat_lt hi) (ile_0 i) (hf i hi)), goOn_nm, succ_wr hi (by omega)]
    exact run59 L n f k hn hf d (i + 1) (fun _ => .und) q (by omega) (by omega)

def bearsT : List V → T (V × List Blk)
  | [v, .val (.int .i64 k)] => apI v fun n f => .br (smallN n) (.br (allN n fun i => ieq (f i) (wr IntKind.i64 (isub (-1000000) k))) (out (bV true)) .fail) .fail
  | _ => .fail

theorem p59 : PureC Tryd.prog Gl 59 bearsT := by
  refine pureC_intro tabOK mixed Tryd.func59 (by kernel_rfl) (by kernel_rfl) fun vs v h' h => ?_
  unfold bearsT at h
  split at h
  · rename_i u k
    obtain ⟨n, f, ha, h1⟩ := apI_some h
    obtain ⟨hn, h2⟩ := sem_br_fail h1
    obtain ⟨hf, h3⟩ := sem_br_fail h2
    have := sem_leaf h3
    simp only [Prod.mk.injEq] at this
    obtain ⟨rfl, rfl⟩ := this
    have hA : ArgLE [u, iV k] [intsV n f, iV k] := fun S w cs hv => by
      obtain ⟨c, l, rfl, q1, q2⟩ := hv
      exact ⟨c, l, rfl, ha S w c q1, q2⟩
    have hn : n ≤ 4611686018427387904 := of_decide_eq_true hn
    have hx := cx_ok tb0_ok [(0, lp59 n f k)]
    have hL := loopsBy_le [(0, lp59 n f k)]
    exact ⟨_, cxOf Gl tb0 [(0, lp59 n f k)], _, hA, rfl, hx.1, hx.2, told_le (onP_le hL hL) _ (wc59 _ _ n f k n (isP_true (run59 _ n f k hn (fun i hi => allN_iff.1 hf i hi) n 0 _ (n + 1) (by omega) (by omega)))), RowsLE.refl _⟩
  · cases h

def places5T (g : Nat → (Nat → E6) → Nat → Int) : List V → T (V × List Blk) := apL1 fun n f => .br (smallN n) (.br (mayN n f) (.br (mkOK 8 (Int.ofNat n) (Int.ofNat n)) (.leaf (.tup [.ref 0, iV 0], [.row 3 1 n fun k => iV (g n f k)])) .fail) (.leaf (.tup [.ref 0, iV 30], [.row 3 1 0 fun _ => .und]))) .fail
def places4T (g : Nat → (Nat → E6) → Nat → Int) : List V → T (V × List Blk) := apL1 fun n f => .br (fitN n) (.br (mayN n f) (.leaf (.tup [.ref 0, iV 0], [.row 3 1 n fun k => iV (g n f k)])) (.leaf (.tup [.ref 0, iV 30], [.row 3 1 0 fun _ => .und]))) .fail

theorem apL1_congrB {F F' : Nat → (Nat → E6) → T (V × List Blk)} (h : ∀ n f, (F n f).sem = (F' n f).sem) (vs : List V) : (apL1 F vs).sem = (apL1 F' vs).sem := by
  unfold apL1
  split
  · unfold apL
    split
    · rename_i n g _
      show sel _ _ _ = sel _ _ _
      rw [h]
    · rfl
  · rfl

theorem places5 {N : Nat} {g : Nat → (Nat → E6) → Nat → Int} (h : PureC Tryd.prog Gl N (placesT g)) : PureC Tryd.prog Gl N (places5T g) := h.congr fun vs r hr => by
  rw [← hr]
  refine apL1_congrB (fun n f => ?_) vs
  cases hm : mayN n f <;> rfl
theorem places4 {N : Nat} {g : Nat → (Nat → E6) → Nat → Int} (h : PureC Tryd.prog Gl N (places2T g)) : PureC Tryd.prog Gl N (places4T g) := h.congr fun vs r hr => by
  rw [← hr]
  refine apL1_congrB (fun n f => ?_) vs
  cases hm : mayN n f <;> rfl

noncomputable def tb13 : List (Nat × (List V → T (V × List Blk))) := [(47, lentT), (50, keptT), (51, places5T fun n f => partF (fun k => outB (f k)) n), (52, places5T fun n f => partF (fun k => movB (f k)) n), (53, places4T fun n f => partF (fun k => outB (f k)) n), (54, places4T fun n f => partF (fun k => movB (f k)) n), (55, alikeI), (59, bearsT), (46, unitT (bV true))]
theorem tb13_ok : AllPure Tryd.prog Gl tb13 := .cons p47 <| .cons p50 <| .cons (places5 p51) <| .cons (places5 p52) <| .cons (places4 p53) <| .cons (places4 p54) <| .cons p55 <| .cons p59 <| .cons p46 .nil
noncomputable def mt13 : List (Nat × (List V → List Blk → T (V × List Blk))) := [(56, markM 3 1 markNI), (57, growM 3 1 growI), (58, growM 3 1 growI)]
theorem mt13_ok : AllMut Tryd.prog Gl mt13 := .cons m56 <| .cons m57 <| .cons m58 .nil

theorem cmpI_rfl {n : Nat} {f g : Nat → Int} (h : ∀ i, i < n → f i = g i) : ieq (cmpI n f n g) 0 = true := by
  rw [(cmpI_zero n f n g).2 ⟨rfl, h⟩]
  rfl

theorem mayN_congB {n : Nat} {f g : Nat → E6} (h : ∀ i, i < n → f i = g i) : mayN n f = mayN n g := by
  rw [Bool.eq_iff_iff, mayN_iff, mayN_iff]
  exact ⟨fun h1 i hi => by rw [← h i hi]; exact h1 i hi, fun h1 i hi => by rw [h i hi]; exact h1 i hi⟩

theorem wc13y_p (L : Nat → (St → T (Ex × St)) → St → T (Ex × St)) (n : Nat) (f : Nat → E6) : (finF (evalF tab ⟨callM mt13 tb13, L, Gl⟩ Tryd.f13 [edgesV n f] [])).path [true, true, true, true, true, true, true, true, true, true, true, true, true, true, true, true, true, true, true, true, true, true, true, true, false, false, false, false, false, false, false, true, true, true, true, false, false, false, false, false, true, true, true, true, false, false, false, false, false, true, true, true, true, false, false, false, true, true, true, true, true, true, true, true, true, true, true, true, true, true, true, true, true, true, true, true, true, true, true, true, true, true, true, true, true, true, true, true, true, true, true] = some ([(allN n (fun _ => Bool.true)), (fitN (nadd n 60)), (allN n (fun _ => Bool.true)), (smallN n), (mayN n (fun i => (lentE n f i))), (mkOK 8 (Int.ofNat n) (Int.ofNat n)), (allN n (fun _ => Bool.true)), (smallN n), (mayN n (fun i => (lentE n f i))), (mkOK 8 (Int.ofNat n) (Int.ofNat n)), (allN n (fun _ => Bool.true)), (smallN n), (mayN n (fun i => (lentE n f i))), (mkOK 8 (Int.ofNat n) (Int.ofNat n)), (allN n (fun _ => Bool.true)), (smallN n), (mayN n (fun i => (lentE n f i))), (mkOK 8 (Int.ofNat n) (Int.ofNat n)), (allN n (fun _ => Bool.true)), (fitN n), (mayN n f), (allN n (fun _ => Bool.true)), (fitN n), (mayN n f), (bnot (ieq 0 0)), (bnot (ieq 0 0)), (bnot (ieq 0 0)), (bnot (ieq 0 0)), (bnot (ieq 0 0)), (bnot (ieq 0 0)), (bnot (ieq 0 0)), (allN n (fun _ => Bool.true)), (allN n (fun _ => Bool.true)), (smallN n), (smallN n), (bnot (ieq 0 0)), (bnot (ieq 0 0)), (bnot (ieq (cmpI n (partF (fun k => (outB (lentE n f k))) n) n (partF (fun k => (outB (f k))) n)) 0)), (bnot (ieq (cmpI n (partF (fun k => (outB (lentE n f k))) n) n (partF (fun k => (outB (f k))) n)) 0)), (bnot (ieq (cmpI n (partF (fun k => (outB (lentE n f k))) n) n (partF (fun k => (outB (f k))) n)) 0)), (allN n (fun _ => Bool.true)), (allN n (fun _ => Bool.true)), (smallN n), (smallN n), (bnot (ieq (cmpI n (partF (fun k => (outB (lentE n f k))) n) n (partF (fun k => (outB (f k))) n)) 0)), (bnot (ieq (cmpI n (partF (fun k => (outB (lentE n f k))) n) n (partF (fun k => (outB (f k))) n)) 0)), (bnot (ieq (cmpI n (partF (fun k => (movB (lentE n f k))) n) n (partF (fun k => (movB (f k))) n)) 0)), (bnot (ieq (cmpI n (partF (fun k => (movB (lentE n f k))) n) n (partF (fun k => (movB (f k))) n)) 0)), (bnot (ieq (cmpI n (partF (fun k => (movB (lentE n f k))) n) n (partF (fun k => (movB (f k))) n)) 0)), (allN (nadd n 40) (fun _ => Bool.true)), (allN n (fun _ => Bool.true)), (fitN (nadd n 60)), (keptB n (nadd n 40) (fun i => (lentE n f i)) n f), (bnot (ieq (cmpI n (partF (fun k => (movB (lentE n f k))) n) n (partF (fun k => (movB (f k))) n)) 0)), (bnot (ieq (cmpI n (partF (fun k => (movB (lentE n f k))) n) n (partF (fun k => (movB (f k))) n)) 0)), (bnot Bool.true), (smallN n), (allN n (fun _ => Bool.true)), (smallN n), (allN n (fun _ => Bool.true)), (apOK n 80 8), (apOK n 80 8), (apOK n 80 8), (apOK n 80 8), (allN n (fun _ => Bool.true)), (smallN n), (allN n (fun _ => (ieq (-1000001) (-1000001)))), Bool.true, Bool.true, (allN n (fun _ => Bool.true)), (smallN n), (allN n (fun _ => (ieq (-1000002) (-1000002)))), Bool.true, Bool.true, Bool.true, Bool.true, (allN n (fun _ => Bool.true)), (allN n (fun _ => Bool.true)), (smallN n), (smallN n), Bool.true, (ieq (cmpI n (partF (fun k => (outB (lentE n f k))) n) n (partF (fun k => (outB (f k))) n)) 0), (ieq (cmpI n (partF (fun k => (outB (lentE n f k))) n) n (partF (fun k => (outB (f k))) n)) 0), (ieq (cmpI n (partF (fun k => (outB (lentE n f k))) n) n (partF (fun k => (outB (f k))) n)) 0), (allN n (fun _ => Bool.true)), (allN n (fun _ => Bool.true)), (smallN n), (smallN n), (ieq (cmpI n (partF (fun k => (outB (lentE n f k))) n) n (partF (fun k => (outB (f k))) n)) 0), (ieq (cmpI n (partF (fun k => (movB (lentE n f k))) n) n (partF (fun k => (movB (f k))) n)) 0), (ieq (cmpI n (partF (fun k => (movB (lentE n f k))) n) n (partF (fun k => (movB (f k))) n)) 0)], ((bV Bool.true), [])) := by kernel_rfl
theorem wc13y (L : Nat → (St → T (Ex × St)) → St → T (Ex × St)) (n : Nat) (f : Nat → E6) (h17 : fitN (nadd n 60) = true) (h18 : smallN n = true) (h0 : mayN n (fun i => (lentE n f i)) = true) (h19 : mkOK 8 (Int.ofNat n) (Int.ofNat n) = true) (h20 : fitN n = true) (h1 : mayN n f = true) (h21 : ieq (cmpI n (partF (fun k => (outB (lentE n f k))) n) n (partF (fun k => (outB (f k))) n)) 0 = true) (h22 : ieq (cmpI n (partF (fun k => (movB (lentE n f k))) n) n (partF (fun k => (movB (f k))) n)) 0 = true) (h23 : keptB n (nadd n 40) (fun i => (lentE n f i)) n f = true) (h24 : apOK n 80 8 = true) (h25 : allN n (fun _ => (ieq (-1000001) (-1000001))) = true) (h26 : allN n (fun _ => (ieq (-1000002) (-1000002))) = true) : (finF (evalF tab ⟨callM mt13 tb13, L, Gl⟩ Tryd.f13 [edgesV n f] [])).sem = some ((bV Bool.true), []) := by
  exact sem_of_path (wc13y_p L n f) (by simp only [h17, h18, h0, h19, h20, h1, h21, h22, h23, h24, h25, h26, allN_true] <;> rfl)

theorem wc13n_p (L : Nat → (St → T (Ex × St)) → St → T (Ex × St)) (n : Nat) (f : Nat → E6) : (finF (evalF tab ⟨callM mt13 tb13, L, Gl⟩ Tryd.f13 [edgesV n f] [])).path [true, true, true, true, false, true, true, false, true, true, false, true, true, false, true, true, false, true, true, false, false, false, false, false, false, false, false, true, true, true, true, false, false, false, false, false, true, true, true, true, false, false, false, false, false, true, true, true, true, false, false, false, true, true, true, true, true, true, true, true, true, true, true, true, true, true, true, true, true, true, true, true, true, true, true, true, true, true, true, true, true, true, true, true, true, true, true] = some ([(allN n (fun _ => Bool.true)), (fitN (nadd n 60)), (allN n (fun _ => Bool.true)), (smallN n), (mayN n (fun i => (lentE n f i))), (allN n (fun _ => Bool.true)), (smallN n), (mayN n (fun i => (lentE n f i))), (allN n (fun _ => Bool.true)), (smallN n), (mayN n (fun i => (lentE n f i))), (allN n (fun _ => Bool.true)), (smallN n), (mayN n (fun i => (lentE n f i))), (allN n (fun _ => Bool.true)), (fitN n), (mayN n f), (allN n (fun _ => Bool.true)), (fitN n), (mayN n f), (bnot (ieq 30 30)), (bnot (ieq 30 30)), (bnot (ieq 30 30)), (bnot (ieq 30 30)), (bnot (ieq 30 30)), (bnot (ieq 30 30)), (bnot (ieq 30 30)), (allN 0 (fun _ => Bool.false)), (allN 0 (fun _ => Bool.false)), (smallN 0), (smallN 0), (bnot (ieq 30 30)), (bnot (ieq 30 30)), (bnot (ieq (cmpI 0 (fun _ => 0) 0 (fun _ => 0)) 0)), (bnot (ieq (cmpI 0 (fun _ => 0) 0 (fun _ => 0)) 0)), (bnot (ieq (cmpI 0 (fun _ => 0) 0 (fun _ => 0)) 0)), (allN 0 (fun _ => Bool.false)), (allN 0 (fun _ => Bool.false)), (smallN 0), (smallN 0), (bnot (ieq (cmpI 0 (fun _ => 0) 0 (fun _ => 0)) 0)), (bnot (ieq (cmpI 0 (fun _ => 0) 0 (fun _ => 0)) 0)), (bnot (ieq (cmpI 0 (fun _ => 0) 0 (fun _ => 0)) 0)), (bnot (ieq (cmpI 0 (fun _ => 0) 0 (fun _ => 0)) 0)), (bnot (ieq (cmpI 0 (fun _ => 0) 0 (fun _ => 0)) 0)), (allN (nadd n 40) (fun _ => Bool.true)), (allN n (fun _ => Bool.true)), (fitN (nadd n 60)), (keptB n (nadd n 40) (fun i => (lentE n f i)) n f), (bnot (ieq (cmpI 0 (fun _ => 0) 0 (fun _ => 0)) 0)), (bnot (ieq (cmpI 0 (fun _ => 0) 0 (fun _ => 0)) 0)), (bnot Bool.true), (smallN 0), (allN 0 (fun _ => Bool.false)), (smallN 0), (allN 0 (fun _ => Bool.false)), (apOK 0 80 8), (apOK 0 80 8), (apOK 0 80 8), (apOK 0 80 8), (allN 0 (fun _ => Bool.true)), (smallN 0), (allN 0 (fun _ => (ieq (-1000001) (-1000001)))), Bool.true, Bool.true, (allN 0 (fun _ => Bool.true)), (smallN 0), (allN 0 (fun _ => (ieq (-1000002) (-1000002)))), Bool.true, Bool.true, Bool.true, Bool.true, (allN 0 (fun _ => Bool.false)), (allN 0 (fun _ => Bool.false)), (smallN 0), (smallN 0), Bool.true, (ieq (cmpI 0 (fun _ => 0) 0 (fun _ => 0)) 0), (ieq (cmpI 0 (fun _ => 0) 0 (fun _ => 0)) 0), (ieq (cmpI 0 (fun _ => 0) 0 (fun _ => 0)) 0), (allN 0 (fun _ => Bool.false)), (allN 0 (fun _ => Bool.false)), (smallN 0), (smallN 0), (ieq (cmpI 0 (fun _ => 0) 0 (fun _ => 0)) 0), (ieq (cmpI 0 (fun _ => 0) 0 (fun _ => 0)) 0), (ieq (cmpI 0 (fun _ => 0) 0 (fun _ => 0)) 0)], ((bV Bool.true), [])) := by kernel_rfl
theorem wc13n (L : Nat → (St → T (Ex × St)) → St → T (Ex × St)) (n : Nat) (f : Nat → E6) (h17 : fitN (nadd n 60) = true) (h18 : smallN n = true) (h0 : mayN n (fun i => (lentE n f i)) = false) (h19 : fitN n = true) (h1 : mayN n f = false) (h20 : allN 0 (fun _ => Bool.false) = true) (h21 : smallN 0 = true) (h22 : ieq (cmpI 0 (fun _ => 0) 0 (fun _ => 0)) 0 = true) (h23 : keptB n (nadd n 40) (fun i => (lentE n f i)) n f = true) (h24 : allN 0 (fun _ => (ieq (-1000001) (-1000001))) = true) (h25 : allN 0 (fun _ => (ieq (-1000002) (-1000002))) = true) : (finF (evalF tab ⟨callM mt13 tb13, L, Gl⟩ Tryd.f13 [edgesV n f] [])).sem = some ((bV Bool.true), []) := by
  exact sem_of_path (wc13n_p L n f) (by simp only [h17, h18, h0, h19, h1, h20, h21, h22, h23, h24, h25, allN_true] <;> rfl)

def law13T : List V → T (V × List Blk) := apL1 fun n _ => .br (fitN (nadd n 60)) (out (bV true)) .fail

theorem p13 : PureC Tryd.prog Gl 13 law13T := by
  refine pureC_intro tabOK mixed Tryd.func13 (by kernel_rfl) (by kernel_rfl) fun vs v h' h => ?_
  obtain ⟨n, f, ha, h1⟩ := apL1_some h
  obtain ⟨hn, hq⟩ := sem_br_fail h1
  have := sem_leaf hq
  simp only [Prod.mk.injEq] at this
  obtain ⟨rfl, rfl⟩ := this
  have h8 : (n + 60) * 40 ≤ 140737488355328 := of_decide_eq_true hn
  have hs : smallN n = true := decide_eq_true (by omega)
  have hk : mkOK 8 (Int.ofNat n) (Int.ofNat n) = true := by
    simp only [mkOK, Bool.and_eq_true, decide_eq_true_eq, Int.ofNat_eq_natCast]
    omega
  have hx := cxM_ok mt13_ok tb13_ok []
  have hc : mayN n (fun i => lentE n f i) = mayN n f := mayN_congB fun i hi => lentE_lt hi
  refine ⟨_, cxM Gl mt13 tb13 [], _, ha, rfl, hx.1, hx.2, ?_, RowsLE.refl _⟩
  cases hm : mayN n f with
  | true =>
    have hL : mayN n (fun i => lentE n f i) = true := by rw [hc, hm]
    exact wc13y _ n f hn hs hL hk (fit60 hn) hm (cmpI_rfl fun i _ => congrFun (partF_congr fun k hk => congrArg outB (lentE_lt hk)) i) (cmpI_rfl fun i _ => congrFun (partF_congr fun k hk => congrArg movB (lentE_lt hk)) i) (kept_lent n f) (ap_ok (by omega)) (allN_iff.2 fun _ _ => rfl) (allN_iff.2 fun _ _ => rfl)
  | false =>
    have hL : mayN n (fun i => lentE n f i) = false := by rw [hc, hm]
    exact wc13n _ n f hn hs hL (fit60 hn) hm rfl rfl rfl (kept_lent n f) rfl rfl

theorem law13_sem {n : Nat} (f : Nat → E6) (hn : n * 40 ≤ 140737488351232) : (law13T [edgesV n f]).sem = some (bV true, []) := by
  show (apL (edgesV n f) fun n _ => T.br (fitN (nadd n 60)) (out (bV true)) .fail).sem = _
  rw [apLsem]
  have hn : fitN (nadd n 60) = true := decide_eq_true (by show (n + 60) * 40 ≤ _; omega)
  simp only [hn]
  rfl

#print axioms p13

end Go.Proofs.YtcaljjnadbpacaaDoor.Ed
