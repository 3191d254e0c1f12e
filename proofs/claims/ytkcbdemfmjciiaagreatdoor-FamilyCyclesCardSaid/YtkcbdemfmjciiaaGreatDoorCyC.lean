/-
  Layer 4: the parts of a cycle. No conditions.
-/
import Derived.Test.YtkcbdemfmjciiaaGreatDoorCyB
namespace Go.Proofs.YtkcbdemfmjciiaaGreatDoor.Ed
open Go.Sy

/-- The part of each edge, as far as the first loop has come. -/
def rowA (p : Nat → Bool) (i k : Nat) : Int := bif decide (k < i) then Int.ofNat (cntB p k) else 0
/-- The part of each edge: the last part is the first one again. -/
def partF (p : Nat → Bool) (n k : Nat) : Int := bif decide (k < n) then (bif decide (cntB p k = cntB p n) then 0 else Int.ofNat (cntB p k)) else 0
def updI (h : Nat → Int) (i : Nat) (s : Int) (k : Nat) : Int := bif decide (k = i) then s else h k

theorem setI_eq (h : Nat → Int) (i : Nat) (s : Int) : setGet (fun k => iV (h k)) i (iV s) = fun k => iV (updI h i s k) := by
  funext k
  rw [setGet_eq, show Nat.beq k i = decide (k = i) by rw [Bool.eq_iff_iff]; simp]
  unfold updI
  cases decide (k = i) <;> rfl

theorem updI_row (p : Nat → Bool) (i : Nat) : updI (rowA p i) i (Int.ofNat (cntB p i)) = rowA p (i + 1) := by
  funext k
  unfold updI rowA
  by_cases h : k = i
  · subst h; simp
  · by_cases h2 : k < i
    · have : k < i + 1 := by omega
      simp [h, h2, this]
    · have : ¬ k < i + 1 := by omega
      simp [h, h2, this]

theorem updI_back (p : Nat → Bool) (i : Nat) : updI (rowA p (i + 1)) i 0 = rowA p i := by
  funext k
  unfold updI rowA
  by_cases h : k = i
  · subst h; simp
  · by_cases h2 : k < i
    · have : k < i + 1 := by omega
      simp [h, h2, this]
    · have : ¬ k < i + 1 := by omega
      simp [h, h2, this]

def dn : Nat → Int
  | 0 => -1
  | D + 1 => Int.ofNat D

theorem dn_wr {D n : Nat} (h : D ≤ n) (hn : n ≤ 4611686018427387904) : wr .i64 (isub (Int.ofNat D) 1) = dn D := by
  cases D with
  | zero => rfl
  | succ D =>
    unfold wr isub IntKind.wrap dn
    simp [IntKind.bits, IntKind.signed]
    omega

theorem cntB_mono (p : Nat → Bool) : ∀ {i k : Nat}, i ≤ k → cntB p i ≤ cntB p k
  | i, 0, h => by
    have : i = 0 := by omega
    subst this
    exact Nat.le_refl _
  | i, k + 1, h => by
    by_cases h2 : i = k + 1
    · subst h2; exact Nat.le_refl _
    · have := cntB_mono p (show i ≤ k by omega)
      refine Nat.le_trans this ?_
      rw [show cntB p (k + 1) = (match p k with | true => cntB p k + 1 | false => cntB p k) from rfl]
      cases p k
      · exact Nat.le_refl _
      · exact Nat.le_succ _

theorem part_eq (p : Nat → Bool) (n D : Nat) (h : D ≤ n) (h1 : ∀ k, k < D → cntB p k ≠ cntB p n) (h2 : ∀ k, D ≤ k → k < n → cntB p k = cntB p n) : rowA p D = partF p n := by
  funext k
  unfold rowA partF
  by_cases h3 : k < D
  · have h4 : k < n := by omega
    simp [h3, h4, h1 k h3]
  · by_cases h4 : k < n
    · simp [h3, h4, h2 k (by omega) h4]
    · simp [h3, h4]

def lp92o (n : Nat) (f : Nat → E6) : Lp := ⟨[true, true, false, false, false, true, true, false, false, false, false, false, false, true, true, true, false, false, false, false, false, false, false, false, false, false, false, false, false, false, false, false, false, false, false, false, false, false, false, false, false, false, false, false, false, false, false, false, false, false, false], 2, [true, false, false, false, false, true, true, false, false, false, false, false, false, false, false, false, false, false, false, false, false, false, false, false, false, false, false, false, false, false, false, false, false, false, false, false, false, false, false, false, false, false, false, false, false, false, false, false, false, false, false], 2, n + 1⟩
def st92o (n : Nat) (f : Nat → E6) (s : Int) (i : Nat) (h : Nat → Int) (j : Nat → V) : St := ⟨[.sl 6 n (fun i => (eV (f i))), .fn 41 [], j 2, j 3, j 4, .ref 1, iV s, j 7, j 8, j 9, j 10, j 11, j 12, .sl 6 n (fun i => (eV (f i))), iV (Int.ofNat n), iV (Int.ofNat i), j 16, j 17, j 18, j 19, j 20, j 21, j 22, j 23, j 24, j 25, j 26, j 27, j 28, j 29, j 30, j 31, j 32, j 33, j 34, j 35, j 36, j 37, j 38, j 39, j 40, j 41, j 42, j 43, j 44, j 45, j 46, j 47, j 48, j 49, j 50], [.row 3 1 0 (fun _ => .und), .row 3 1 n (fun k => iV (h k))]⟩
def en92oa (n : Nat) (f : Nat → E6) (s : Int) (i : Nat) (h : Nat → Int) : Ex × St := (.ex 0, ⟨[.sl 6 n (fun i => (eV (f i))), .und, .und, .und, .und, .ref 1, iV s, .und, .und, .und, .und, .und, .und, .und, .und, .und, .und, .und, .und, .und, .und, .und, .und, .und, .und, .und, .und, .und, .und, .und, .und, .und, .und, .und, .und, .und, .und, .und, .und, .und, .und, .und, .und, .und, .und, .und, .und, .und, .und, .und, .und], [.row 3 1 0 (fun _ => .und), .row 3 1 n (fun k => iV (h k))]⟩)
noncomputable def body92o (L : Nat → (St → T (Ex × St)) → St → T (Ex × St)) : St → T (Ex × St) := fun st => evalC tab ⟨callT tbY, L, Gl⟩ (loopBody Tryz.f45 0) 0 st
theorem rc92oa (L : Nat → (St → T (Ex × St)) → St → T (Ex × St)) (n : Nat) (f : Nat → E6) (s : Int) (i : Nat) (h : Nat → Int)  (j : Nat → V) (h0 : ilt (Int.ofNat i) (Int.ofNat n) = false) : ((body92o L (st92o n f s i h j)).bind fun r => T.leaf (cutR (lp92o n f) r)).sem = some ((.ex 0), ⟨[(.sl 6 n (fun i => (eV (f i)))), .und, .und, .und, .und, (.ref 1), (iV s), .und, .und, .und, .und, .und, .und, .und, .und, .und, .und, .und, .und, .und, .und, .und, .und, .und, .und, .und, .und, .und, .und, .und, .und, .und, .und, .und, .und, .und, .und, .und, .und, .und, .und, .und, .und, .und, .und, .und, .und, .und, .und, .und, .und], [(.row 3 1 0 (fun _ => .und)), (.row 3 1 n (fun k => (iV (h k))))]⟩) := by
  exact sem_of_path (ds := [false]) (cs := [(ilt (Int.ofNat i) (Int.ofNat n))]) (by kernel_rfl) (by simp only [h0] <;> rfl)
theorem rc92ot (L : Nat → (St → T (Ex × St)) → St → T (Ex × St)) (n : Nat) (f : Nat → E6) (s : Int) (i : Nat) (h : Nat → Int)  (j : Nat → V) (h0 : ilt (Int.ofNat i) (Int.ofNat n) = true) (h1 : band (ile 0 (Int.ofNat i)) (ilt (Int.ofNat i) (Int.ofNat n)) = true) (h2 : nlt i n = true) (h3 : outB (f i) = true) : ((body92o L (st92o n f s i h j)).bind fun r => T.leaf (cutR (lp92o n f) r)).sem = some (.nm, ⟨[(.sl 6 n (fun i => (eV (f i)))), (.fn 41 []), .und, .und, .und, (.ref 1), (iV (wr IntKind.i64 (iadd s 1))), .und, .und, .und, .und, .und, .und, (.sl 6 n (fun i => (eV (f i)))), (iV (Int.ofNat n)), (iV (wr IntKind.i64 (iadd (Int.ofNat i) 1))), .und, .und, .und, .und, .und, .und, .und, .und, .und, .und, .und, .und, .und, .und, .und, .und, .und, .und, .und, .und, .und, .und, .und, .und, .und, .und, .und, .und, .und, .und, .und, .und, .und, .und, .und], [(.row 3 1 0 (fun _ => .und)), (.row 3 1 n (setGet (fun k => (iV (h k))) i (iV s)))]⟩) := by
  exact sem_of_path (ds := [true, true, true, true, true]) (cs := [(ilt (Int.ofNat i) (Int.ofNat n)), (band (ile 0 (Int.ofNat i)) (ilt (Int.ofNat i) (Int.ofNat n))), (band (ile 0 (Int.ofNat i)) (ilt (Int.ofNat i) (Int.ofNat n))), (nlt i n), (outB (f i))]) (by kernel_rfl) (by simp only [h1] <;> simp only [h0, h2, h3] <;> rfl)
theorem rc92of (L : Nat → (St → T (Ex × St)) → St → T (Ex × St)) (n : Nat) (f : Nat → E6) (s : Int) (i : Nat) (h : Nat → Int)  (j : Nat → V) (h0 : ilt (Int.ofNat i) (Int.ofNat n) = true) (h1 : band (ile 0 (Int.ofNat i)) (ilt (Int.ofNat i) (Int.ofNat n)) = true) (h2 : nlt i n = true) (h3 : outB (f i) = false) : ((body92o L (st92o n f s i h j)).bind fun r => T.leaf (cutR (lp92o n f) r)).sem = some (.nm, ⟨[(.sl 6 n (fun i => (eV (f i)))), (.fn 41 []), .und, .und, .und, (.ref 1), (iV s), .und, .und, .und, .und, .und, .und, (.sl 6 n (fun i => (eV (f i)))), (iV (Int.ofNat n)), (iV (wr IntKind.i64 (iadd (Int.ofNat i) 1))), .und, .und, .und, .und, .und, .und, .und, .und, .und, .und, .und, .und, .und, .und, .und, .und, .und, .und, .und, .und, .und, .und, .und, .und, .und, .und, .und, .und, .und, .und, .und, .und, .und, .und, .und], [(.row 3 1 0 (fun _ => .und)), (.row 3 1 n (setGet (fun k => (iV (h k))) i (iV s)))]⟩) := by
  exact sem_of_path (ds := [true, true, true, true, false]) (cs := [(ilt (Int.ofNat i) (Int.ofNat n)), (band (ile 0 (Int.ofNat i)) (ilt (Int.ofNat i) (Int.ofNat n))), (band (ile 0 (Int.ofNat i)) (ilt (Int.ofNat i) (Int.ofNat n))), (nlt i n), (outB (f i))]) (by kernel_rfl) (by simp only [h1] <;> simp only [h0, h2, h3] <;> rfl)
def jk92o (n : Nat) (f : Nat → E6)  : Nat → V
  | 4 => (.ref 0)
  | 10 => (.sl 6 n (fun i => (eV (f i))))
  | 11 => (iV (Int.ofNat n))
  | 12 => (.ref 1)
  | _ => undefV

def lp92_2o (n : Nat) (f : Nat → E6) : Lp := ⟨[false, false, false, false, false, true, true, false, false, true, false, false, false, false, false, false, false, false, false, false, false, false, false, false, false, false, false, false, false, false, false, false, false, false, false, false, false, false, false, false, false, false, false, false, false, false, false, false, false, false, false], 2, [false, false, false, false, false, true, false, false, false, false, false, false, false, false, false, false, false, false, false, false, false, false, false, false, false, false, false, false, false, false, false, false, false, false, false, false, false, false, false, false, false, false, false, false, false, false, false, false, false, false, false], 2, n + 1⟩
def st92_2o (n : Nat) (f : Nat → E6) (s d : Int) (h : Nat → Int) (j : Nat → V) : St := ⟨[j 0, j 1, j 2, j 3, j 4, .ref 1, iV s, j 7, j 8, iV d, j 10, j 11, j 12, j 13, j 14, j 15, j 16, j 17, j 18, j 19, j 20, j 21, j 22, j 23, j 24, j 25, j 26, j 27, j 28, j 29, j 30, j 31, j 32, j 33, j 34, j 35, j 36, j 37, j 38, j 39, j 40, j 41, j 42, j 43, j 44, j 45, j 46, j 47, j 48, j 49, j 50], [.row 3 1 0 (fun _ => .und), .row 3 1 n (fun k => iV (h k))]⟩
def en92_2oa (n : Nat) (f : Nat → E6) (s d : Int) (h : Nat → Int) : Ex × St := (.ex 2, ⟨[.und, .und, .und, .und, .und, .ref 1, .und, .und, .und, .und, .und, .und, .und, .und, .und, .und, .und, .und, .und, .und, .und, .und, .und, .und, .und, .und, .und, .und, .und, .und, .und, .und, .und, .und, .und, .und, .und, .und, .und, .und, .und, .und, .und, .und, .und, .und, .und, .und, .und, .und, .und], [.row 3 1 0 (fun _ => .und), .row 3 1 n (fun k => iV (h k))]⟩)
noncomputable def body92_2o (L : Nat → (St → T (Ex × St)) → St → T (Ex × St)) : St → T (Ex × St) := fun st => evalC tab ⟨callT tbY, L, Gl⟩ (loopBody Tryz.f45 2) 2 st
theorem rd92oa (L : Nat → (St → T (Ex × St)) → St → T (Ex × St)) (n : Nat) (f : Nat → E6) (s d : Int) (h : Nat → Int)  (j : Nat → V) (h0 : ile 0 d = false) : ((body92_2o L (st92_2o n f s d h j)).bind fun r => T.leaf (cutR (lp92_2o n f) r)).sem = some ((.ex 2), ⟨[.und, .und, .und, .und, .und, (.ref 1), .und, .und, .und, .und, .und, .und, .und, .und, .und, .und, .und, .und, .und, .und, .und, .und, .und, .und, .und, .und, .und, .und, .und, .und, .und, .und, .und, .und, .und, .und, .und, .und, .und, .und, .und, .und, .und, .und, .und, .und, .und, .und, .und, .und, .und], [(.row 3 1 0 (fun _ => .und)), (.row 3 1 n (fun k => (iV (h k))))]⟩) := by
  exact sem_of_path (ds := [false, false, false, false, false, false, false, false]) (cs := [(ile 0 d), (ile 0 d), (ile 0 d), (ile 0 d), (ile 0 d), (ile 0 d), (ile 0 d), Bool.false]) (by kernel_rfl) (by simp only [h0] <;> rfl)
theorem rd92ob (L : Nat → (St → T (Ex × St)) → St → T (Ex × St)) (n : Nat) (f : Nat → E6) (s d : Int) (h : Nat → Int)  (j : Nat → V) (h0 : ile 0 d = true) (h1 : band (ile 0 d) (ilt d (Int.ofNat n)) = true) (h2 : nlt (toN d) n = true) (h3 : ieq (h (toN d)) s = false) : ((body92_2o L (st92_2o n f s d h j)).bind fun r => T.leaf (cutR (lp92_2o n f) r)).sem = some ((.ex 2), ⟨[.und, .und, .und, .und, .und, (.ref 1), .und, .und, .und, .und, .und, .und, .und, .und, .und, .und, .und, .und, .und, .und, .und, .und, .und, .und, .und, .und, .und, .und, .und, .und, .und, .und, .und, .und, .und, .und, .und, .und, .und, .und, .und, .und, .und, .und, .und, .und, .und, .und, .und, .und, .und], [(.row 3 1 0 (fun _ => .und)), (.row 3 1 n (fun k => (iV (h k))))]⟩) := by
  exact sem_of_path (ds := [true, true, true, true, true, true, true, true, true, false]) (cs := [(ile 0 d), (ile 0 d), (ile 0 d), (band (ile 0 d) (ilt d (Int.ofNat n))), (ile 0 d), (nlt (toN d) n), (ile 0 d), (ile 0 d), (ile 0 d), (ieq (h (toN d)) s)]) (by kernel_rfl) (by simp only [h1] <;> simp only [h0, h2, h3] <;> rfl)
theorem rd92on (L : Nat → (St → T (Ex × St)) → St → T (Ex × St)) (n : Nat) (f : Nat → E6) (s d : Int) (h : Nat → Int)  (j : Nat → V) (h0 : ile 0 d = true) (h1 : band (ile 0 d) (ilt d (Int.ofNat n)) = true) (h2 : nlt (toN d) n = true) (h3 : ieq (h (toN d)) s = true) : ((body92_2o L (st92_2o n f s d h j)).bind fun r => T.leaf (cutR (lp92_2o n f) r)).sem = some (.nm, ⟨[.und, .und, .und, .und, .und, (.ref 1), (iV s), .und, .und, (iV (wr IntKind.i64 (isub d 1))), .und, .und, .und, .und, .und, .und, .und, .und, .und, .und, .und, .und, .und, .und, .und, .und, .und, .und, .und, .und, .und, .und, .und, .und, .und, .und, .und, .und, .und, .und, .und, .und, .und, .und, .und, .und, .und, .und, .und, .und, .und], [(.row 3 1 0 (fun _ => .und)), (.row 3 1 n (setGet (fun k => (iV (h k))) (toN d) (iV 0)))]⟩) := by
  exact sem_of_path (ds := [true, true, true, true, true, true, true, true, true, true, true, true]) (cs := [(ile 0 d), (ile 0 d), (ile 0 d), (band (ile 0 d) (ilt d (Int.ofNat n))), (ile 0 d), (nlt (toN d) n), (ile 0 d), (ile 0 d), (ile 0 d), (ieq (h (toN d)) s), (band (ile 0 d) (ilt d (Int.ofNat n))), (nlt (toN d) n)]) (by kernel_rfl) (by simp only [h1] <;> simp only [h0, h2, h3] <;> rfl)
def jk92_2o (n : Nat) (f : Nat → E6) (s : Int) (i : Nat) (h : Nat → Int) : Nat → V
  | 0 => (.sl 6 n (fun i => (eV (f i))))
  | 1 => .und
  | 2 => .und
  | 3 => .und
  | 4 => .und
  | 7 => .und
  | 8 => .und
  | 10 => .und
  | 11 => .und
  | 12 => .und
  | 13 => .und
  | 14 => .und
  | 15 => .und
  | 16 => .und
  | 17 => .und
  | 18 => .und
  | 19 => .und
  | 20 => .und
  | 21 => .und
  | 22 => .und
  | 23 => .und
  | 24 => .und
  | 25 => .und
  | 26 => .und
  | 27 => .und
  | 28 => .und
  | 29 => .und
  | 30 => (iV s)
  | 31 => (bV (ilt 0 s))
  | 32 => (.sl 6 n (fun i => (eV (f i))))
  | 33 => (iV (Int.ofNat n))
  | 34 => (iV (wr IntKind.i64 (isub (Int.ofNat n) 1)))
  | 35 => .und
  | 36 => .und
  | 37 => .und
  | 38 => .und
  | 39 => .und
  | 40 => .und
  | 41 => .und
  | 42 => .und
  | 43 => .und
  | 44 => .und
  | 45 => .und
  | 46 => .und
  | 47 => .und
  | 48 => .und
  | 49 => .und
  | 50 => .und
  | _ => undefV

theorem wc92oz (L : Nat → (St → T (Ex × St)) → St → T (Ex × St)) (p0 : (St → T (Ex × St)) → St → Bool) (n : Nat) (f : Nat → E6) (s : Int) (i : Nat) (h : Nat → Int) (h0 : mkOK 8 (Int.ofNat n) (Int.ofNat n) = true) (h1 : ilt 0 s = false) (hp0 : p0 (body92o (onP 0 p0 (en92oa n f s i h) L)) (st92o n f 0 0 (fun _ => 0) (jk92o n f )) = true) : (finF (evalF tab ⟨callT tbY, (onP 0 p0 (en92oa n f s i h) L), Gl⟩ Tryz.f45 [edgesV n f, .fn 41 []] [])).sem = some ((.ref 0), [(.row 3 1 n (fun k => (iV (h k))))]) := by
  exact sem_of_path (ds := [true, true, false]) (cs := [(mkOK 8 (Int.ofNat n) (Int.ofNat n)), (p0 (body92o (onP 0 p0 (en92oa n f s i h) L)) (st92o n f 0 0 (fun _ => 0) (jk92o n f ))), (ilt 0 s)]) (by kernel_rfl) (by simp only [h0, h1, hp0] <;> rfl)

theorem wc92op (L : Nat → (St → T (Ex × St)) → St → T (Ex × St)) (p0 : (St → T (Ex × St)) → St → Bool) (p2 : (St → T (Ex × St)) → St → Bool) (n : Nat) (f : Nat → E6) (s d : Int) (i : Nat) (h g : Nat → Int) (h0 : mkOK 8 (Int.ofNat n) (Int.ofNat n) = true) (h1 : ilt 0 s = true) (hp0 : p0 (body92o (onP 0 p0 (en92oa n f s i h) (onP 2 p2 (en92_2oa n f s d g) L))) (st92o n f 0 0 (fun _ => 0) (jk92o n f )) = true) (hp2 : p2 (body92_2o (onP 0 p0 (en92oa n f s i h) (onP 2 p2 (en92_2oa n f s d g) L))) (st92_2o n f s (wr IntKind.i64 (isub (Int.ofNat n) 1)) h (jk92_2o n f s i h)) = true) : (finF (evalF tab ⟨callT tbY, (onP 0 p0 (en92oa n f s i h) (onP 2 p2 (en92_2oa n f s d g) L)), Gl⟩ Tryz.f45 [edgesV n f, .fn 41 []] [])).sem = some ((.ref 0), [(.row 3 1 n (fun k => (iV (g k))))]) := by
  exact sem_of_path (ds := [true, true, true, true]) (cs := [(mkOK 8 (Int.ofNat n) (Int.ofNat n)), (p0 (body92o (onP 0 p0 (en92oa n f s i h) (onP 2 p2 (en92_2oa n f s d g) L))) (st92o n f 0 0 (fun _ => 0) (jk92o n f ))), (ilt 0 s), (p2 (body92_2o (onP 0 p0 (en92oa n f s i h) (onP 2 p2 (en92_2oa n f s d g) L))) (st92_2o n f s (wr IntKind.i64 (isub (Int.ofNat n) 1)) h (jk92_2o n f s i h)))]) (by kernel_rfl) (by simp only [h0, h1, hp0, hp2] <;> rfl)
def lp92m (n : Nat) (f : Nat → E6) : Lp := ⟨[true, true, false, false, false, true, true, false, false, false, false, false, false, true, true, true, false, false, false, false, false, false, false, false, false, false, false, false, false, false, false, false, false, false, false, false, false, false, false, false, false, false, false, false, false, false, false, false, false, false, false], 2, [true, false, false, false, false, true, true, false, false, false, false, false, false, false, false, false, false, false, false, false, false, false, false, false, false, false, false, false, false, false, false, false, false, false, false, false, false, false, false, false, false, false, false, false, false, false, false, false, false, false, false], 2, n + 1⟩
def st92m (n : Nat) (f : Nat → E6) (s : Int) (i : Nat) (h : Nat → Int) (j : Nat → V) : St := ⟨[.sl 6 n (fun i => (eV (f i))), .fn 42 [], j 2, j 3, j 4, .ref 1, iV s, j 7, j 8, j 9, j 10, j 11, j 12, .sl 6 n (fun i => (eV (f i))), iV (Int.ofNat n), iV (Int.ofNat i), j 16, j 17, j 18, j 19, j 20, j 21, j 22, j 23, j 24, j 25, j 26, j 27, j 28, j 29, j 30, j 31, j 32, j 33, j 34, j 35, j 36, j 37, j 38, j 39, j 40, j 41, j 42, j 43, j 44, j 45, j 46, j 47, j 48, j 49, j 50], [.row 3 1 0 (fun _ => .und), .row 3 1 n (fun k => iV (h k))]⟩
def en92ma (n : Nat) (f : Nat → E6) (s : Int) (i : Nat) (h : Nat → Int) : Ex × St := (.ex 0, ⟨[.sl 6 n (fun i => (eV (f i))), .und, .und, .und, .und, .ref 1, iV s, .und, .und, .und, .und, .und, .und, .und, .und, .und, .und, .und, .und, .und, .und, .und, .und, .und, .und, .und, .und, .und, .und, .und, .und, .und, .und, .und, .und, .und, .und, .und, .und, .und, .und, .und, .und, .und, .und, .und, .und, .und, .und, .und, .und], [.row 3 1 0 (fun _ => .und), .row 3 1 n (fun k => iV (h k))]⟩)
noncomputable def body92m (L : Nat → (St → T (Ex × St)) → St → T (Ex × St)) : St → T (Ex × St) := fun st => evalC tab ⟨callT tbY, L, Gl⟩ (loopBody Tryz.f45 0) 0 st
theorem rc92ma (L : Nat → (St → T (Ex × St)) → St → T (Ex × St)) (n : Nat) (f : Nat → E6) (s : Int) (i : Nat) (h : Nat → Int)  (j : Nat → V) (h0 : ilt (Int.ofNat i) (Int.ofNat n) = false) : ((body92m L (st92m n f s i h j)).bind fun r => T.leaf (cutR (lp92m n f) r)).sem = some ((.ex 0), ⟨[(.sl 6 n (fun i => (eV (f i)))), .und, .und, .und, .und, (.ref 1), (iV s), .und, .und, .und, .und, .und, .und, .und, .und, .und, .und, .und, .und, .und, .und, .und, .und, .und, .und, .und, .und, .und, .und, .und, .und, .und, .und, .und, .und, .und, .und, .und, .und, .und, .und, .und, .und, .und, .und, .und, .und, .und, .und, .und, .und], [(.row 3 1 0 (fun _ => .und)), (.row 3 1 n (fun k => (iV (h k))))]⟩) := by
  exact sem_of_path (ds := [false]) (cs := [(ilt (Int.ofNat i) (Int.ofNat n))]) (by kernel_rfl) (by simp only [h0] <;> rfl)
theorem rc92mt (L : Nat → (St → T (Ex × St)) → St → T (Ex × St)) (n : Nat) (f : Nat → E6) (s : Int) (i : Nat) (h : Nat → Int)  (j : Nat → V) (h0 : ilt (Int.ofNat i) (Int.ofNat n) = true) (h1 : band (ile 0 (Int.ofNat i)) (ilt (Int.ofNat i) (Int.ofNat n)) = true) (h2 : nlt i n = true) (h3 : movB (f i) = true) : ((body92m L (st92m n f s i h j)).bind fun r => T.leaf (cutR (lp92m n f) r)).sem = some (.nm, ⟨[(.sl 6 n (fun i => (eV (f i)))), (.fn 42 []), .und, .und, .und, (.ref 1), (iV (wr IntKind.i64 (iadd s 1))), .und, .und, .und, .und, .und, .und, (.sl 6 n (fun i => (eV (f i)))), (iV (Int.ofNat n)), (iV (wr IntKind.i64 (iadd (Int.ofNat i) 1))), .und, .und, .und, .und, .und, .und, .und, .und, .und, .und, .und, .und, .und, .und, .und, .und, .und, .und, .und, .und, .und, .und, .und, .und, .und, .und, .und, .und, .und, .und, .und, .und, .und, .und, .und], [(.row 3 1 0 (fun _ => .und)), (.row 3 1 n (setGet (fun k => (iV (h k))) i (iV s)))]⟩) := by
  exact sem_of_path (ds := [true, true, true, true, true]) (cs := [(ilt (Int.ofNat i) (Int.ofNat n)), (band (ile 0 (Int.ofNat i)) (ilt (Int.ofNat i) (Int.ofNat n))), (band (ile 0 (Int.ofNat i)) (ilt (Int.ofNat i) (Int.ofNat n))), (nlt i n), (movB (f i))]) (by kernel_rfl) (by simp only [h1] <;> simp only [h0, h2, h3] <;> rfl)
theorem rc92mf (L : Nat → (St → T (Ex × St)) → St → T (Ex × St)) (n : Nat) (f : Nat → E6) (s : Int) (i : Nat) (h : Nat → Int)  (j : Nat → V) (h0 : ilt (Int.ofNat i) (Int.ofNat n) = true) (h1 : band (ile 0 (Int.ofNat i)) (ilt (Int.ofNat i) (Int.ofNat n)) = true) (h2 : nlt i n = true) (h3 : movB (f i) = false) : ((body92m L (st92m n f s i h j)).bind fun r => T.leaf (cutR (lp92m n f) r)).sem = some (.nm, ⟨[(.sl 6 n (fun i => (eV (f i)))), (.fn 42 []), .und, .und, .und, (.ref 1), (iV s), .und, .und, .und, .und, .und, .und, (.sl 6 n (fun i => (eV (f i)))), (iV (Int.ofNat n)), (iV (wr IntKind.i64 (iadd (Int.ofNat i) 1))), .und, .und, .und, .und, .und, .und, .und, .und, .und, .und, .und, .und, .und, .und, .und, .und, .und, .und, .und, .und, .und, .und, .und, .und, .und, .und, .und, .und, .und, .und, .und, .und, .und, .und, .und], [(.row 3 1 0 (fun _ => .und)), (.row 3 1 n (setGet (fun k => (iV (h k))) i (iV s)))]⟩) := by
  exact sem_of_path (ds := [true, true, true, true, false]) (cs := [(ilt (Int.ofNat i) (Int.ofNat n)), (band (ile 0 (Int.ofNat i)) (ilt (Int.ofNat i) (Int.ofNat n))), (band (ile 0 (Int.ofNat i)) (ilt (Int.ofNat i) (Int.ofNat n))), (nlt i n), (movB (f i))]) (by kernel_rfl) (by simp only [h1] <;> simp only [h0, h2, h3] <;> rfl)
def jk92m (n : Nat) (f : Nat → E6)  : Nat → V
  | 4 => (.ref 0)
  | 10 => (.sl 6 n (fun i => (eV (f i))))
  | 11 => (iV (Int.ofNat n))
  | 12 => (.ref 1)
  | _ => undefV

def lp92_2m (n : Nat) (f : Nat → E6) : Lp := ⟨[false, false, false, false, false, true, true, false, false, true, false, false, false, false, false, false, false, false, false, false, false, false, false, false, false, false, false, false, false, false, false, false, false, false, false, false, false, false, false, false, false, false, false, false, false, false, false, false, false, false, false], 2, [false, false, false, false, false, true, false, false, false, false, false, false, false, false, false, false, false, false, false, false, false, false, false, false, false, false, false, false, false, false, false, false, false, false, false, false, false, false, false, false, false, false, false, false, false, false, false, false, false, false, false], 2, n + 1⟩
def st92_2m (n : Nat) (f : Nat → E6) (s d : Int) (h : Nat → Int) (j : Nat → V) : St := ⟨[j 0, j 1, j 2, j 3, j 4, .ref 1, iV s, j 7, j 8, iV d, j 10, j 11, j 12, j 13, j 14, j 15, j 16, j 17, j 18, j 19, j 20, j 21, j 22, j 23, j 24, j 25, j 26, j 27, j 28, j 29, j 30, j 31, j 32, j 33, j 34, j 35, j 36, j 37, j 38, j 39, j 40, j 41, j 42, j 43, j 44, j 45, j 46, j 47, j 48, j 49, j 50], [.row 3 1 0 (fun _ => .und), .row 3 1 n (fun k => iV (h k))]⟩
def en92_2ma (n : Nat) (f : Nat → E6) (s d : Int) (h : Nat → Int) : Ex × St := (.ex 2, ⟨[.und, .und, .und, .und, .und, .ref 1, .und, .und, .und, .und, .und, .und, .und, .und, .und, .und, .und, .und, .und, .und, .und, .und, .und, .und, .und, .und, .und, .und, .und, .und, .und, .und, .und, .und, .und, .und, .und, .und, .und, .und, .und, .und, .und, .und, .und, .und, .und, .und, .und, .und, .und], [.row 3 1 0 (fun _ => .und), .row 3 1 n (fun k => iV (h k))]⟩)
noncomputable def body92_2m (L : Nat → (St → T (Ex × St)) → St → T (Ex × St)) : St → T (Ex × St) := fun st => evalC tab ⟨callT tbY, L, Gl⟩ (loopBody Tryz.f45 2) 2 st
theorem rd92ma (L : Nat → (St → T (Ex × St)) → St → T (Ex × St)) (n : Nat) (f : Nat → E6) (s d : Int) (h : Nat → Int)  (j : Nat → V) (h0 : ile 0 d = false) : ((body92_2m L (st92_2m n f s d h j)).bind fun r => T.leaf (cutR (lp92_2m n f) r)).sem = some ((.ex 2), ⟨[.und, .und, .und, .und, .und, (.ref 1), .und, .und, .und, .und, .und, .und, .und, .und, .und, .und, .und, .und, .und, .und, .und, .und, .und, .und, .und, .und, .und, .und, .und, .und, .und, .und, .und, .und, .und, .und, .und, .und, .und, .und, .und, .und, .und, .und, .und, .und, .und, .und, .und, .und, .und], [(.row 3 1 0 (fun _ => .und)), (.row 3 1 n (fun k => (iV (h k))))]⟩) := by
  exact sem_of_path (ds := [false, false, false, false, false, false, false, false]) (cs := [(ile 0 d), (ile 0 d), (ile 0 d), (ile 0 d), (ile 0 d), (ile 0 d), (ile 0 d), Bool.false]) (by kernel_rfl) (by simp only [h0] <;> rfl)
theorem rd92mb (L : Nat → (St → T (Ex × St)) → St → T (Ex × St)) (n : Nat) (f : Nat → E6) (s d : Int) (h : Nat → Int)  (j : Nat → V) (h0 : ile 0 d = true) (h1 : band (ile 0 d) (ilt d (Int.ofNat n)) = true) (h2 : nlt (toN d) n = true) (h3 : ieq (h (toN d)) s = false) : ((body92_2m L (st92_2m n f s d h j)).bind fun r => T.leaf (cutR (lp92_2m n f) r)).sem = some ((.ex 2), ⟨[.und, .und, .und, .und, .und, (.ref 1), .und, .und, .und, .und, .und, .und, .und, .und, .und, .und, .und, .und, .und, .und, .und, .und, .und, .und, .und, .und, .und, .und, .und, .und, .und, .und, .und, .und, .und, .und, .und, .und, .und, .und, .und, .und, .und, .und, .und, .und, .und, .und, .und, .und, .und], [(.row 3 1 0 (fun _ => .und)), (.row 3 1 n (fun k => (iV (h k))))]⟩) := by
  exact sem_of_path (ds := [true, true, true, true, true, true, true, true, true, false]) (cs := [(ile 0 d), (ile 0 d), (ile 0 d), (band (ile 0 d) (ilt d (Int.ofNat n))), (ile 0 d), (nlt (toN d) n), (ile 0 d), (ile 0 d), (ile 0 d), (ieq (h (toN d)) s)]) (by kernel_rfl) (by simp only [h1] <;> simp only [h0, h2, h3] <;> rfl)
theorem rd92mn (L : Nat → (St → T (Ex × St)) → St → T (Ex × St)) (n : Nat) (f : Nat → E6) (s d : Int) (h : Nat → Int)  (j : Nat → V) (h0 : ile 0 d = true) (h1 : band (ile 0 d) (ilt d (Int.ofNat n)) = true) (h2 : nlt (toN d) n = true) (h3 : ieq (h (toN d)) s = true) : ((body92_2m L (st92_2m n f s d h j)).bind fun r => T.leaf (cutR (lp92_2m n f) r)).sem = some (.nm, ⟨[.und, .und, .und, .und, .und, (.ref 1), (iV s), .und, .und, (iV (wr IntKind.i64 (isub d 1))), .und, .und, .und, .und, .und, .und, .und, .und, .und, .und, .und, .und, .und, .und, .und, .und, .und, .und, .und, .und, .und, .und, .und, .und, .und, .und, .und, .und, .und, .und, .und, .und, .und, .und, .und, .und, .und, .und, .und, .und, .und], [(.row 3 1 0 (fun _ => .und)), (.row 3 1 n (setGet (fun k => (iV (h k))) (toN d) (iV 0)))]⟩) := by
  exact sem_of_path (ds := [true, true, true, true, true, true, true, true, true, true, true, true]) (cs := [(ile 0 d), (ile 0 d), (ile 0 d), (band (ile 0 d) (ilt d (Int.ofNat n))), (ile 0 d), (nlt (toN d) n), (ile 0 d), (ile 0 d), (ile 0 d), (ieq (h (toN d)) s), (band (ile 0 d) (ilt d (Int.ofNat n))), (nlt (toN d) n)]) (by kernel_rfl) (by simp only [h1] <;> simp only [h0, h2, h3] <;> rfl)
def jk92_2m (n : Nat) (f : Nat → E6) (s : Int) (i : Nat) (h : Nat → Int) : Nat → V
  | 0 => (.sl 6 n (fun i => (eV (f i))))
  | 1 => .und
  | 2 => .und
  | 3 => .und
  | 4 => .und
  | 7 => .und
  | 8 => .und
  | 10 => .und
  | 11 => .und
  | 12 => .und
  | 13 => .und
  | 14 => .und
  | 15 => .und
  | 16 => .und
  | 17 => .und
  | 18 => .und
  | 19 => .und
  | 20 => .und
  | 21 => .und
  | 22 => .und
  | 23 => .und
  | 24 => .und
  | 25 => .und
  | 26 => .und
  | 27 => .und
  | 28 => .und
  | 29 => .und
  | 30 => (iV s)
  | 31 => (bV (ilt 0 s))
  | 32 => (.sl 6 n (fun i => (eV (f i))))
  | 33 => (iV (Int.ofNat n))
  | 34 => (iV (wr IntKind.i64 (isub (Int.ofNat n) 1)))
  | 35 => .und
  | 36 => .und
  | 37 => .und
  | 38 => .und
  | 39 => .und
  | 40 => .und
  | 41 => .und
  | 42 => .und
  | 43 => .und
  | 44 => .und
  | 45 => .und
  | 46 => .und
  | 47 => .und
  | 48 => .und
  | 49 => .und
  | 50 => .und
  | _ => undefV

theorem wc92mz (L : Nat → (St → T (Ex × St)) → St → T (Ex × St)) (p0 : (St → T (Ex × St)) → St → Bool) (n : Nat) (f : Nat → E6) (s : Int) (i : Nat) (h : Nat → Int) (h0 : mkOK 8 (Int.ofNat n) (Int.ofNat n) = true) (h1 : ilt 0 s = false) (hp0 : p0 (body92m (onP 0 p0 (en92ma n f s i h) L)) (st92m n f 0 0 (fun _ => 0) (jk92m n f )) = true) : (finF (evalF tab ⟨callT tbY, (onP 0 p0 (en92ma n f s i h) L), Gl⟩ Tryz.f45 [edgesV n f, .fn 42 []] [])).sem = some ((.ref 0), [(.row 3 1 n (fun k => (iV (h k))))]) := by
  exact sem_of_path (ds := [true, true, false]) (cs := [(mkOK 8 (Int.ofNat n) (Int.ofNat n)), (p0 (body92m (onP 0 p0 (en92ma n f s i h) L)) (st92m n f 0 0 (fun _ => 0) (jk92m n f ))), (ilt 0 s)]) (by kernel_rfl) (by simp only [h0, h1, hp0] <;> rfl)

theorem wc92mp (L : Nat → (St → T (Ex × St)) → St → T (Ex × St)) (p0 : (St → T (Ex × St)) → St → Bool) (p2 : (St → T (Ex × St)) → St → Bool) (n : Nat) (f : Nat → E6) (s d : Int) (i : Nat) (h g : Nat → Int) (h0 : mkOK 8 (Int.ofNat n) (Int.ofNat n) = true) (h1 : ilt 0 s = true) (hp0 : p0 (body92m (onP 0 p0 (en92ma n f s i h) (onP 2 p2 (en92_2ma n f s d g) L))) (st92m n f 0 0 (fun _ => 0) (jk92m n f )) = true) (hp2 : p2 (body92_2m (onP 0 p0 (en92ma n f s i h) (onP 2 p2 (en92_2ma n f s d g) L))) (st92_2m n f s (wr IntKind.i64 (isub (Int.ofNat n) 1)) h (jk92_2m n f s i h)) = true) : (finF (evalF tab ⟨callT tbY, (onP 0 p0 (en92ma n f s i h) (onP 2 p2 (en92_2ma n f s d g) L)), Gl⟩ Tryz.f45 [edgesV n f, .fn 42 []] [])).sem = some ((.ref 0), [(.row 3 1 n (fun k => (iV (g k))))]) := by
  exact sem_of_path (ds := [true, true, true, true]) (cs := [(mkOK 8 (Int.ofNat n) (Int.ofNat n)), (p0 (body92m (onP 0 p0 (en92ma n f s i h) (onP 2 p2 (en92_2ma n f s d g) L))) (st92m n f 0 0 (fun _ => 0) (jk92m n f ))), (ilt 0 s), (p2 (body92_2m (onP 0 p0 (en92ma n f s i h) (onP 2 p2 (en92_2ma n f s d g) L))) (st92_2m n f s (wr IntKind.i64 (isub (Int.ofNat n) 1)) h (jk92_2m n f s i h)))]) (by kernel_rfl) (by simp only [h0, h1, hp0, hp2] <;> rfl)

theorem run92o (L : Nat → (St → T (Ex × St)) → St → T (Ex × St)) (n : Nat) (f : Nat → E6) (hn : n ≤ 4611686018427387904) : ∀ (e i : Nat) (j : Nat → V) (q : Nat), n = i + e → e < q →
    (iterT (body92o L) (lp92o n f) q (st92o n f (Int.ofNat (cntB (fun k => outB (f k)) i)) i (rowA (fun k => outB (f k)) i) j)).sem = some (en92oa n f (Int.ofNat (cntB (fun k => outB (f k)) n)) n (rowA (fun k => outB (f k)) n))
  | 0, i, j, q + 1, h, _ => by
    have : n = i := by omega
    subst this
    exact iter_round (rc92oa L n f _ _ _ j (ofNat_ge (Nat.le_refl _)))
  | e + 1, i, j, q + 1, h, h2 => by
    have hc := cntB_le (fun k => outB (f k)) i
    have hl : ilt (Int.ofNat i) (Int.ofNat n) = true := ofNat_lt (by omega)
    have hb : band (ile 0 (Int.ofNat i)) (ilt (Int.ofNat i) (Int.ofNat n)) = true := by rw [ofNat_0, hl]; rfl
    have hk : nlt i n = true := by simpa [nlt] using (show i < n by omega)
    cases hp : outB (f i) with
    | true =>
      rw [iter_round (rc92ot L n f _ i _ j hl hb hk hp), goOn_nm, succ_wr (show i < n by omega) hn, succ_wr (show cntB (fun k => outB (f k)) i < n by omega) hn,
        show cntB (fun k => outB (f k)) i + 1 = cntB (fun k => outB (f k)) (i + 1) by rw [cntB, hp], setI_eq, updI_row]
      exact run92o L n f hn e (i + 1) (fun _ => .und) q (by omega) (by omega)
    | false =>
      rw [iter_round (rc92of L n f _ i _ j hl hb hk hp), goOn_nm, succ_wr (show i < n by omega) hn, setI_eq, updI_row,
        show cntB (fun k => outB (f k)) i = cntB (fun k => outB (f k)) (i + 1) by rw [cntB, hp]]
      exact run92o L n f hn e (i + 1) (fun _ => .und) q (by omega) (by omega)

theorem run93o (L : Nat → (St → T (Ex × St)) → St → T (Ex × St)) (n : Nat) (f : Nat → E6) (hn : n ≤ 4611686018427387904) : ∀ (D : Nat) (j : Nat → V) (q : Nat), D ≤ n → D < q → (∀ k, D ≤ k → k < n → cntB (fun k => outB (f k)) k = cntB (fun k => outB (f k)) n) →
    (iterT (body92_2o L) (lp92_2o n f) q (st92_2o n f (Int.ofNat (cntB (fun k => outB (f k)) n)) (dn D) (rowA (fun k => outB (f k)) D) j)).sem = some (en92_2oa n f 0 0 (partF (fun k => outB (f k)) n))
  | 0, j, q + 1, h, _, hb => by
    rw [← part_eq (fun k => outB (f k)) n 0 h (fun k hk => absurd hk (Nat.not_lt_zero _)) hb]
    exact iter_round (rd92oa L n f _ _ _ j rfl)
  | D + 1, j, q + 1, h, h2, hb => by
    have hl : ilt (Int.ofNat D) (Int.ofNat n) = true := ofNat_lt (by omega)
    have hb1 : band (ile 0 (Int.ofNat D)) (ilt (Int.ofNat D) (Int.ofNat n)) = true := by rw [ofNat_0, hl]; rfl
    have hk : nlt D n = true := by simpa [nlt] using (show D < n by omega)
    have hr : rowA (fun k => outB (f k)) (D + 1) D = Int.ofNat (cntB (fun k => outB (f k)) D) := by simp [rowA]
    cases hp : ieq (rowA (fun k => outB (f k)) (D + 1) D) (Int.ofNat (cntB (fun k => outB (f k)) n)) with
    | true =>
      have he : cntB (fun k => outB (f k)) D = cntB (fun k => outB (f k)) n := by
        rw [hr] at hp
        have h7 : ((cntB (fun k => outB (f k)) D : Nat) : Int) = ((cntB (fun k => outB (f k)) n : Nat) : Int) := by simpa [ieq] using hp
        omega
      rw [show dn (D + 1) = Int.ofNat D from rfl, iter_round (rd92on L n f _ _ _ j (ofNat_0 D) hb1 hk hp), goOn_nm, dn_wr (show D ≤ n by omega) hn, setI_eq, show toN (Int.ofNat D) = D from rfl, updI_back]
      exact run93o L n f hn D (fun _ => .und) q (by omega) (by omega) fun k h3 h4 => by
        by_cases h5 : k = D
        · subst h5; exact he
        · exact hb k (by omega) h4
    | false =>
      have he : cntB (fun k => outB (f k)) D ≠ cntB (fun k => outB (f k)) n := fun e => by rw [hr, e] at hp; simp [ieq] at hp
      rw [← part_eq (fun k => outB (f k)) n (D + 1) h (fun k hk e => he (by have := cntB_mono (fun k => outB (f k)) (show k ≤ D by omega); have := cntB_mono (fun k => outB (f k)) (show D ≤ n by omega); omega)) hb]
      exact iter_round (rd92ob L n f _ _ _ j (ofNat_0 D) hb1 hk hp)

theorem run92m (L : Nat → (St → T (Ex × St)) → St → T (Ex × St)) (n : Nat) (f : Nat → E6) (hn : n ≤ 4611686018427387904) : ∀ (e i : Nat) (j : Nat → V) (q : Nat), n = i + e → e < q →
    (iterT (body92m L) (lp92m n f) q (st92m n f (Int.ofNat (cntB (fun k => movB (f k)) i)) i (rowA (fun k => movB (f k)) i) j)).sem = some (en92ma n f (Int.ofNat (cntB (fun k => movB (f k)) n)) n (rowA (fun k => movB (f k)) n))
  | 0, i, j, q + 1, h, _ => by
    have : n = i := by omega
    subst this
    exact iter_round (rc92ma L n f _ _ _ j (ofNat_ge (Nat.le_refl _)))
  | e + 1, i, j, q + 1, h, h2 => by
    have hc := cntB_le (fun k => movB (f k)) i
    have hl : ilt (Int.ofNat i) (Int.ofNat n) = true := ofNat_lt (by omega)
    have hb : band (ile 0 (Int.ofNat i)) (ilt (Int.ofNat i) (Int.ofNat n)) = true := by rw [ofNat_0, hl]; rfl
    have hk : nlt i n = true := by simpa [nlt] using (show i < n by omega)
    cases hp : movB (f i) with
    | true =>
      rw [iter_round (rc92mt L n f _ i _ j hl hb hk hp), goOn_nm, succ_wr (show i < n by omega) hn, succ_wr (show cntB (fun k => movB (f k)) i < n by omega) hn,
        show cntB (fun k => movB (f k)) i + 1 = cntB (fun k => movB (f k)) (i + 1) by rw [cntB, hp], setI_eq, updI_row]
      exact run92m L n f hn e (i + 1) (fun _ => .und) q (by omega) (by omega)
    | false =>
      rw [iter_round (rc92mf L n f _ i _ j hl hb hk hp), goOn_nm, succ_wr (show i < n by omega) hn, setI_eq, updI_row,
        show cntB (fun k => movB (f k)) i = cntB (fun k => movB (f k)) (i + 1) by rw [cntB, hp]]
      exact run92m L n f hn e (i + 1) (fun _ => .und) q (by omega) (by omega)

theorem run93m (L : Nat → (St → T (Ex × St)) → St → T (Ex × St)) (n : Nat) (f : Nat → E6) (hn : n ≤ 4611686018427387904) : ∀ (D : Nat) (j : Nat → V) (q : Nat), D ≤ n → D < q → (∀ k, D ≤ k → k < n → cntB (fun k => movB (f k)) k = cntB (fun k => movB (f k)) n) →
    (iterT (body92_2m L) (lp92_2m n f) q (st92_2m n f (Int.ofNat (cntB (fun k => movB (f k)) n)) (dn D) (rowA (fun k => movB (f k)) D) j)).sem = some (en92_2ma n f 0 0 (partF (fun k => movB (f k)) n))
  | 0, j, q + 1, h, _, hb => by
    rw [← part_eq (fun k => movB (f k)) n 0 h (fun k hk => absurd hk (Nat.not_lt_zero _)) hb]
    exact iter_round (rd92ma L n f _ _ _ j rfl)
  | D + 1, j, q + 1, h, h2, hb => by
    have hl : ilt (Int.ofNat D) (Int.ofNat n) = true := ofNat_lt (by omega)
    have hb1 : band (ile 0 (Int.ofNat D)) (ilt (Int.ofNat D) (Int.ofNat n)) = true := by rw [ofNat_0, hl]; rfl
    have hk : nlt D n = true := by simpa [nlt] using (show D < n by omega)
    have hr : rowA (fun k => movB (f k)) (D + 1) D = Int.ofNat (cntB (fun k => movB (f k)) D) := by simp [rowA]
    cases hp : ieq (rowA (fun k => movB (f k)) (D + 1) D) (Int.ofNat (cntB (fun k => movB (f k)) n)) with
    | true =>
      have he : cntB (fun k => movB (f k)) D = cntB (fun k => movB (f k)) n := by
        rw [hr] at hp
        have h7 : ((cntB (fun k => movB (f k)) D : Nat) : Int) = ((cntB (fun k => movB (f k)) n : Nat) : Int) := by simpa [ieq] using hp
        omega
      rw [show dn (D + 1) = Int.ofNat D from rfl, iter_round (rd92mn L n f _ _ _ j (ofNat_0 D) hb1 hk hp), goOn_nm, dn_wr (show D ≤ n by omega) hn, setI_eq, show toN (Int.ofNat D) = D from rfl, updI_back]
      exact run93m L n f hn D (fun _ => .und) q (by omega) (by omega) fun k h3 h4 => by
        by_cases h5 : k = D
        · subst h5; exact he
        · exact hb k (by omega) h4
    | false =>
      have he : cntB (fun k => movB (f k)) D ≠ cntB (fun k => movB (f k)) n := fun e => by rw [hr, e] at hp; simp [ieq] at hp
      rw [← part_eq (fun k => movB (f k)) n (D + 1) h (fun k hk e => he (by have := cntB_mono (fun k => movB (f k)) (show k ≤ D by omega); have := cntB_mono (fun k => movB (f k)) (show D ≤ n by omega); omega)) hb]
      exact iter_round (rd92mb L n f _ _ _ j (ofNat_0 D) hb1 hk hp)

def partsT : List V → T (V × List Blk)
  | [v, .fn g []] => apL v fun n f => .br (mkOK 8 (Int.ofNat n) (Int.ofNat n)) (match Nat.beq g 41, Nat.beq g 42 with
    | true, _ => .leaf (.ref 0, [.row 3 1 n fun k => iV (partF (fun k => outB (f k)) n k)])
    | false, true => .leaf (.ref 0, [.row 3 1 n fun k => iV (partF (fun k => movB (f k)) n k)])
    | false, false => .fail) .fail
  | _ => .fail

theorem rowA_0 (p : Nat → Bool) : rowA p 0 = fun _ => 0 := by
  funext k
  simp [rowA]

theorem part_z (p : Nat → Bool) (n : Nat) (h : cntB p n = 0) : rowA p n = partF p n := by
  funext k
  unfold rowA partF
  by_cases h3 : k < n
  · have := cntB_mono p (show k ≤ n by omega)
    have h4 : cntB p k = 0 := by omega
    simp [h3, h, h4]
  · simp [h3]

theorem told92o (n : Nat) (f : Nat → E6) (hm : mkOK 8 (Int.ofNat n) (Int.ofNat n) = true) :
    (finF (evalF tab (cxOf Gl tbY [(0, lp92o n f), (2, lp92_2o n f)]) Tryz.f45 [edgesV n f, .fn 41 []] [])).sem = some (.ref 0, [.row 3 1 n fun k => iV (partF (fun k => outB (f k)) n k)]) := by
  have hn : n ≤ 4611686018427387904 := by
    simp only [mkOK, Bool.and_eq_true, decide_eq_true_eq] at hm
    have := hm.2.2.1
    simp only [Int.ofNat_eq_natCast] at this
    omega
  have hL := loopsBy_le [(0, lp92o n f), (2, lp92_2o n f)]
  have h0 := fun L j => run92o L n f hn n 0 j (n + 1) (by omega) (by omega)
  have h2 := fun L j => run93o L n f hn n j (n + 1) (Nat.le_refl _) (by omega) (fun k h1 h2 => by omega)
  rw [rowA_0] at h0
  rw [← dn_wr (Nat.le_refl n) hn] at h2
  cases hs : ilt 0 (Int.ofNat (cntB (fun k => outB (f k)) n)) with
  | true => exact told_le (onP_le (onP_le hL hL) hL) _ (wc92op _ _ _ n f _ 0 n (rowA (fun k => outB (f k)) n) (partF (fun k => outB (f k)) n) hm hs (isP_true (h0 _ _)) (isP_true (h2 _ _)))
  | false =>
    rw [← part_z (fun k => outB (f k)) n (by simpa [ilt] using hs)]
    exact told_le (onP_le hL hL) _ (wc92oz _ _ n f _ n _ hm hs (isP_true (h0 _ _)))

theorem told92m (n : Nat) (f : Nat → E6) (hm : mkOK 8 (Int.ofNat n) (Int.ofNat n) = true) :
    (finF (evalF tab (cxOf Gl tbY [(0, lp92m n f), (2, lp92_2m n f)]) Tryz.f45 [edgesV n f, .fn 42 []] [])).sem = some (.ref 0, [.row 3 1 n fun k => iV (partF (fun k => movB (f k)) n k)]) := by
  have hn : n ≤ 4611686018427387904 := by
    simp only [mkOK, Bool.and_eq_true, decide_eq_true_eq] at hm
    have := hm.2.2.1
    simp only [Int.ofNat_eq_natCast] at this
    omega
  have hL := loopsBy_le [(0, lp92m n f), (2, lp92_2m n f)]
  have h0 := fun L j => run92m L n f hn n 0 j (n + 1) (by omega) (by omega)
  have h2 := fun L j => run93m L n f hn n j (n + 1) (Nat.le_refl _) (by omega) (fun k h1 h2 => by omega)
  rw [rowA_0] at h0
  rw [← dn_wr (Nat.le_refl n) hn] at h2
  cases hs : ilt 0 (Int.ofNat (cntB (fun k => movB (f k)) n)) with
  | true => exact told_le (onP_le (onP_le hL hL) hL) _ (wc92mp _ _ _ n f _ 0 n (rowA (fun k => movB (f k)) n) (partF (fun k => movB (f k)) n) hm hs (isP_true (h0 _ _)) (isP_true (h2 _ _)))
  | false =>
    rw [← part_z (fun k => movB (f k)) n (by simpa [ilt] using hs)]
    exact told_le (onP_le hL hL) _ (wc92mz _ _ n f _ n _ hm hs (isP_true (h0 _ _)))

theorem p92 : PureC Tryz.prog Gl 45 partsT := by
  refine pureC_intro tabOK mixed Tryz.func45 (by kernel_rfl) (by kernel_rfl) fun vs v h' h => ?_
  unfold partsT at h
  split at h
  · rename_i u g
    obtain ⟨n, f, ha, h1⟩ := apL_some h
    obtain ⟨hm, hq⟩ := sem_br_fail h1
    clear h h1
    have hA : ArgLE [u, .fn g []] [edgesV n f, .fn g []] := fun S w cs hv => by
      obtain ⟨c, l, rfl, q1, q2⟩ := hv
      exact ⟨c, l, rfl, ha S w c q1, q2⟩
    split at hq
    · rename_i h1
      have h1 := Nat.eq_of_beq_eq_true h1
      subst h1
      have := sem_leaf hq
      simp only [Prod.mk.injEq] at this
      obtain ⟨rfl, rfl⟩ := this
      have hx := cx_ok tbY_ok [(0, lp92o n f), (2, lp92_2o n f)]
      exact ⟨_, cxOf Gl tbY [(0, lp92o n f), (2, lp92_2o n f)], _, hA, rfl, hx.1, hx.2, told92o n f hm, RowsLE.refl _⟩
    · rename_i h1
      have h1 := Nat.eq_of_beq_eq_true h1
      subst h1
      have := sem_leaf hq
      simp only [Prod.mk.injEq] at this
      obtain ⟨rfl, rfl⟩ := this
      have hx := cx_ok tbY_ok [(0, lp92m n f), (2, lp92_2m n f)]
      exact ⟨_, cxOf Gl tbY [(0, lp92m n f), (2, lp92_2m n f)], _, hA, rfl, hx.1, hx.2, told92m n f hm, RowsLE.refl _⟩
    · cases hq
  · cases h

end Go.Proofs.YtkcbdemfmjciiaaGreatDoor.Ed




