/-
  Parts stand side by side. No conditions.
-/
import Derived.Test.YtcaljjnadbpacaaDoorCyU
namespace Go.Proofs.YtcaljjnadbpacaaDoor.Ed
open Go.Sy

/-! ### Parts stand side by side -/

theorem cntB_step_t {p : Nat → Bool} {i : Nat} (h : p i = true) : cntB p (i + 1) = cntB p i + 1 := by rw [cntB, h]
theorem cntB_step_f {p : Nat → Bool} {i : Nat} (h : p i = false) : cntB p (i + 1) = cntB p i := by rw [cntB, h]

/-- The part behind an edge. -/
theorem part_next (p : Nat → Bool) {n i : Nat} (hi : i < n) (hK : 0 < cntB p n) : partF p n ((i + 1) % n) = Int.ofNat (cntB p (i + 1) % cntB p n) := by
  by_cases h : i + 1 = n
  · rw [h, Nat.mod_self, Nat.mod_self, partF_mod p (by omega) hK]
    rw [show cntB p 0 = 0 from rfl, Nat.zero_mod]
  · rw [Nat.mod_eq_of_lt (show i + 1 < n by omega), partF_mod p (by omega) hK]

/-- Parts change just at the edges that cut. -/
theorem part_adj (p : Nat → Bool) {n i : Nat} (hi : i < n) (hK : 2 ≤ cntB p n) : partF p n i = partF p n ((i + 1) % n) ↔ p i = false := by
  rw [part_next p hi (by omega), partF_mod p hi (by omega)]
  have h1 := cntB_mono p (show i + 1 ≤ n by omega)
  cases hp : p i with
  | true =>
    rw [cntB_step_t hp] at h1 ⊢
    refine ⟨fun h => ?_, fun h => (by cases h)⟩
    have h := Int.ofNat.inj h
    rw [Nat.mod_eq_of_lt (show cntB p i < cntB p n by omega)] at h
    by_cases e : cntB p i + 1 = cntB p n
    · rw [e, Nat.mod_self] at h
      omega
    · rw [Nat.mod_eq_of_lt (by omega)] at h
      omega
  | false =>
    rw [cntB_step_f hp]
    exact ⟨fun _ => rfl, fun _ => rfl⟩

theorem cntB_at (p : Nat → Bool) (c : Nat) : ∀ n, cntB (fun j => p j && decide (cntB p j = c)) n = if c < cntB p n then 1 else 0
  | 0 => by simp [cntB]
  | n + 1 => by
    have ih := cntB_at p c n
    cases hp : p n with
    | false => rw [cntB_step_f hp, cntB_step_f (p := fun j => p j && decide (cntB p j = c)) (by simp [hp]), ih]
    | true =>
      rw [cntB_step_t hp]
      by_cases e : cntB p n = c
      · rw [cntB_step_t (p := fun j => p j && decide (cntB p j = c)) (by simp [hp, e]), ih, if_neg (by omega), if_pos (by omega)]
      · rw [cntB_step_f (p := fun j => p j && decide (cntB p j = c)) (by simp [hp, e]), ih]
        by_cases e2 : c < cntB p n
        · rw [if_pos e2, if_pos (by omega)]
        · rw [if_neg e2, if_neg (by omega)]

theorem cntB_imp {p q : Nat → Bool} : ∀ n, (∀ i, i < n → q i = true → p i = true) → cntB q n ≤ cntB p n
  | 0, _ => Nat.le_refl 0
  | n + 1, h => by
    have ih := cntB_imp n fun i hi => h i (by omega)
    cases hq : q n with
    | true => rw [cntB_step_t hq, cntB_step_t (h n (Nat.lt_succ_self n) hq)]; omega
    | false =>
      rw [cntB_step_f hq]
      exact Nat.le_trans ih (cntB_mono p (Nat.le_succ n))

theorem cntB_pos {p : Nat → Bool} : ∀ {n : Nat}, 0 < cntB p n → ∃ i, i < n ∧ p i = true
  | 0, h => absurd h (Nat.lt_irrefl 0)
  | n + 1, h => by
    cases hp : p n with
    | true => exact ⟨n, Nat.lt_succ_self n, hp⟩
    | false =>
      rw [cntB_step_f hp] at h
      obtain ⟨i, h1, h2⟩ := cntB_pos h
      exact ⟨i, by omega, h2⟩

/-- Of each part, one edge is the first. -/
theorem part_begins (p : Nat → Bool) {n k : Nat} (hK : 2 ≤ cntB p n) (hk : k < cntB p n) :
    cntB (fun i => decide (partF p n i = Int.ofNat k) && decide (partF p n ((i + n - 1) % n) ≠ Int.ofNat k)) n = 1 := by
  have hn : cntB p n ≤ n := cntB_le p n
  rw [← cntB_turned (fun i => decide (partF p n i = Int.ofNat k) && decide (partF p n ((i + n - 1) % n) ≠ Int.ofNat k)) (show 1 < n by omega)]
  rw [cntB_congr (p := fun j => p j && decide (cntB p j = (k + cntB p n - 1) % cntB p n)) n fun j hj => ?_, cntB_at, if_pos (Nat.mod_lt _ (by omega))]
  have e1 : ((1 + j) % n + n - 1) % n = j := by
    by_cases e : 1 + j = n
    · rw [e, Nat.mod_self, show 0 + n - 1 = j by omega, Nat.mod_eq_of_lt hj]
    · rw [Nat.mod_eq_of_lt (show 1 + j < n by omega), show 1 + j + n - 1 = j + n by omega, Nat.add_mod_right, Nat.mod_eq_of_lt hj]
  rw [e1, show 1 + j = j + 1 by omega]
  have ha := part_adj p hj hK
  have hx := part_next p hj (by omega)
  have h1 := cntB_mono p (show j + 1 ≤ n by omega)
  cases hp : p j with
  | false =>
    rw [ha.2 hp]
    by_cases e : partF p n ((j + 1) % n) = Int.ofNat k <;> simp [e]
  | true =>
    have hne : ¬ partF p n j = partF p n ((j + 1) % n) := fun h => by rw [ha.1 h] at hp; cases hp
    rw [cntB_step_t hp] at h1 hx
    have e2 : (partF p n ((j + 1) % n) = Int.ofNat k) ↔ cntB p j = (k + cntB p n - 1) % cntB p n := by
      rw [hx]
      constructor
      · intro h
        have h := Int.ofNat.inj h
        by_cases e : cntB p j + 1 = cntB p n
        · rw [e, Nat.mod_self] at h
          rw [← h, show 0 + cntB p n - 1 = cntB p j by omega, Nat.mod_eq_of_lt (by omega)]
        · rw [Nat.mod_eq_of_lt (by omega)] at h
          rw [← h, show cntB p j + 1 + cntB p n - 1 = cntB p j + cntB p n by omega, Nat.add_mod_right, Nat.mod_eq_of_lt (by omega)]
      · intro h
        congr 1
        by_cases e : k = 0
        · rw [e, show 0 + cntB p n - 1 = cntB p n - 1 by omega, Nat.mod_eq_of_lt (by omega)] at h
          rw [h, show cntB p n - 1 + 1 = cntB p n by omega, Nat.mod_self, e]
        · rw [show k + cntB p n - 1 = k - 1 + cntB p n by omega, Nat.add_mod_right, Nat.mod_eq_of_lt (by omega)] at h
          rw [h, show k - 1 + 1 = k by omega, Nat.mod_eq_of_lt hk]
    by_cases e3 : partF p n ((j + 1) % n) = Int.ofNat k
    · have e4 : ¬ partF p n j = Int.ofNat k := fun h => hne (h.trans e3.symm)
      rw [decide_eq_true e3, decide_eq_true e4, decide_eq_true (e2.1 e3)]
    · rw [decide_eq_false e3, decide_eq_false fun h => e3 (e2.2 h)]
      rfl

theorem part_there (p : Nat → Bool) {n k : Nat} (hK : 2 ≤ cntB p n) (hk : k < cntB p n) : 0 < cntB (fun i => decide (partF p n i = Int.ofNat k)) n := by
  have h := part_begins p hK hk
  have := cntB_imp (p := fun i => decide (partF p n i = Int.ofNat k)) (q := fun i => decide (partF p n i = Int.ofNat k) && decide (partF p n ((i + n - 1) % n) ≠ Int.ofNat k)) n fun i _ h => by
    simp only [Bool.and_eq_true] at h
    exact h.1
  omega

/-- The most that some numbers come to, one more each. -/
def maxP (l : Nat → Int) : Nat → Int
  | 0 => 0
  | i + 1 => if maxP l i < l i + 1 then l i + 1 else maxP l i

theorem maxP_le {l : Nat → Int} {K : Int} (h0 : 0 ≤ K) : ∀ n, (∀ i, i < n → l i + 1 ≤ K) → maxP l n ≤ K
  | 0, _ => h0
  | n + 1, h => by
    unfold maxP
    split
    · exact h n (Nat.lt_succ_self n)
    · exact maxP_le h0 n fun i hi => h i (by omega)

theorem maxP_ge {l : Nat → Int} : ∀ n i, i < n → l i + 1 ≤ maxP l n
  | 0, i, h => absurd h (Nat.not_lt_zero i)
  | n + 1, i, h => by
    unfold maxP
    by_cases e : i = n
    · subst e
      split <;> omega
    · have := maxP_ge (l := l) n i (by omega)
      split <;> omega

theorem part_max (p : Nat → Bool) {n : Nat} (hK : 2 ≤ cntB p n) : maxP (partF p n) n = Int.ofNat (cntB p n) := by
  have h1 : maxP (partF p n) n ≤ Int.ofNat (cntB p n) := maxP_le (by simp) n fun i hi => by
    rw [partF_mod p hi (by omega)]
    have := Nat.mod_lt (cntB p i) (show 0 < cntB p n by omega)
    simp only [Int.ofNat_eq_natCast]
    omega
  obtain ⟨i, hi, h2⟩ := cntB_pos (part_there p hK (show cntB p n - 1 < cntB p n by omega))
  have h2 : partF p n i = Int.ofNat (cntB p n - 1) := of_decide_eq_true h2
  have h3 := maxP_ge (l := partF p n) n i hi
  rw [h2] at h3
  simp only [Int.ofNat_eq_natCast] at h1 h3 ⊢
  omega

theorem part_zero (p : Nat → Bool) {n : Nat} (hK : 2 ≤ cntB p n) : partF p n 0 = 0 := by
  have := cntB_le p n
  rw [partF_mod p (by omega) (by omega), show cntB p 0 = 0 from rfl, Nat.zero_mod]
  rfl

/-- As many go there as come back. -/
theorem there_back (s : Nat → Bool) {n : Nat} (hn : 1 < n) : cntB (fun i => s i && !s ((1 + i) % n)) n = cntB (fun i => !s i && s ((1 + i) % n)) n := by
  have key : ∀ m, cntB (fun i => s i && !s ((1 + i) % n)) m + cntB (fun i => s ((1 + i) % n)) m = cntB (fun i => !s i && s ((1 + i) % n)) m + cntB s m := by
    intro m
    induction m with
    | zero => rfl
    | succ m ih =>
      rw [cntB, cntB, cntB, cntB]
      cases h1 : s m <;> cases h2 : s ((1 + m) % n) <;> simp <;> omega
  have h := key n
  rw [cntB_turned s hn] at h
  omega

theorem pred_wr {D : Nat} (h : 0 < D) (hn : D ≤ 9223372036854775807) : wr .i64 (isub (Int.ofNat D) 1) = Int.ofNat (D - 1) := by
  unfold wr isub IntKind.wrap
  simp [IntKind.bits, IntKind.signed]
  omega

theorem isPle {L : Nat → (St → T (Ex × St)) → St → T (Ex × St)} (hL : LLe L L) (k : Nat) (r : Ex × St) : LLe (onP k (isP L k r) r L) (onP k (isP L k r) r L) := fun id f f' st hf r' hr => by
  unfold onP at hr ⊢
  cases hk : Nat.beq id k with
  | true =>
    rw [hk] at hr
    obtain ⟨h1, h2⟩ := sem_br_fail hr
    unfold isP at h1
    have h1 := @of_decide_eq_true _ (Classical.propDecidable _) h1
    have h3 : isP L k r f' st = true := isP_true (hL k f f' st hf _ h1)
    show sel (isP L k r f' st) _ _ = _
    rw [h3]
    exact h2
  | false =>
    rw [hk] at hr
    exact hL id f f' st hf _ hr

/-! ### Do like numbers stand side by side? -/

def thereP (l : Nat → Int) (k : Int) (i : Nat) : Bool := ieq (l i) k
def beginP (n : Nat) (l : Nat → Int) (k : Int) (i : Nat) : Bool := band (ieq (l i) k) (bnot (ieq (l ((i + n - 1) % n)) k))
def sideB (n : Nat) (l : Nat → Int) (q : Int) : Bool := decide (0 ≤ q) && (decide (q ≤ (n : Int)) && allN (toN q) fun k => (!decide (cntB (thereP l (Int.ofNat k)) n = 0)) && decide (cntB (beginP n l (Int.ofNat k)) n = 1))

def lp62_2 (n : Nat) (l : Nat → Int) (q : Int) : Lp := ⟨[true, true, false, false, true, true, true, true, true, false, false, false, false, false, false, false, false, false, false, false, false, false, false, false, false, false, false, false, false, false, false, false, false, false, false, false, false, false, false, false, false, false, false, false, false, false, false, false, false], 0, [true, true, false, false, true, true, true, true, false, false, false, false, false, false, false, false, false, false, false, false, false, false, false, false, false, false, false, false, false, false, false, false, false, false, false, false, false, false, false, false, false, false, false, false, false, false, false, false, false], 0, n + 1⟩
def st62_2 (n : Nat) (l : Nat → Int) (q : Int) (k x y : Int) (i : Nat) (j : Nat → V) : St := ⟨[.sl 1 n (fun k => iV (l k)), iV q, j 2, j 3, bV false, iV k, iV x, iV y, iV (Int.ofNat i), j 9, j 10, j 11, j 12, j 13, j 14, j 15, j 16, j 17, j 18, j 19, j 20, j 21, j 22, j 23, j 24, j 25, j 26, j 27, j 28, j 29, j 30, j 31, j 32, j 33, j 34, j 35, j 36, j 37, j 38, j 39, j 40, j 41, j 42, j 43, j 44, j 45, j 46, j 47, j 48], []⟩
def en62_2e (n : Nat) (l : Nat → Int) (q : Int) (k x y : Int) (i : Nat) : Ex × St := (.ex 2, ⟨[.sl 1 n (fun k => iV (l k)), iV q, .und, .und, bV false, iV k, iV x, iV y, .und, .und, .und, .und, .und, .und, .und, .und, .und, .und, .und, .und, .und, .und, .und, .und, .und, .und, .und, .und, .und, .und, .und, .und, .und, .und, .und, .und, .und, .und, .und, .und, .und, .und, .und, .und, .und, .und, .und, .und, .und], []⟩)
noncomputable def body62_2 (L : Nat → (St → T (Ex × St)) → St → T (Ex × St)) : St → T (Ex × St) := fun st => evalC tab ⟨callT tb0, L, Gl⟩ (loopBody Tryd.f62 2) 2 st
theorem rc62e_p (L : Nat → (St → T (Ex × St)) → St → T (Ex × St)) (n : Nat) (l : Nat → Int) (q : Int) (k x y : Int) (i : Nat)  (j : Nat → V) : ((body62_2 L (st62_2 n l q k x y i j)).bind fun r => T.leaf (cutR (lp62_2 n l q) r)).path [false] = some ([(ilt (Int.ofNat i) (Int.ofNat n))], ((.ex 2), ⟨[(.sl 1 n (fun k => (iV (l k)))), (iV q), .und, .und, (bV Bool.false), (iV k), (iV x), (iV y), .und, .und, .und, .und, .und, .und, .und, .und, .und, .und, .und, .und, .und, .und, .und, .und, .und, .und, .und, .und, .und, .und, .und, .und, .und, .und, .und, .und, .und, .und, .und, .und, .und, .und, .und, .und, .und, .und, .und, .und, .und], []⟩)) := by kernel_rfl
theorem rc62e (L : Nat → (St → T (Ex × St)) → St → T (Ex × St)) (n : Nat) (l : Nat → Int) (q : Int) (k x y : Int) (i : Nat)  (j : Nat → V) (h0 : ilt (Int.ofNat i) (Int.ofNat n) = false) : ((body62_2 L (st62_2 n l q k x y i j)).bind fun r => T.leaf (cutR (lp62_2 n l q) r)).sem = some ((.ex 2), ⟨[(.sl 1 n (fun k => (iV (l k)))), (iV q), .und, .und, (bV Bool.false), (iV k), (iV x), (iV y), .und, .und, .und, .und, .und, .und, .und, .und, .und, .und, .und, .und, .und, .und, .und, .und, .und, .und, .und, .und, .und, .und, .und, .und, .und, .und, .und, .und, .und, .und, .und, .und, .und, .und, .und, .und, .und, .und, .und, .und, .und], []⟩) := by
  exact sem_of_path (rc62e_p L n l q k x y i j) (by simp only [h0] <;> rfl)
theorem rc62n_p (L : Nat → (St → T (Ex × St)) → St → T (Ex × St)) (n : Nat) (l : Nat → Int) (q : Int) (k x y : Int) (i : Nat)  (j : Nat → V) : ((body62_2 L (st62_2 n l q k x y i j)).bind fun r => T.leaf (cutR (lp62_2 n l q) r)).path [true, true, false] = some ([(ilt (Int.ofNat i) (Int.ofNat n)), (band (ile 0 (Int.ofNat i)) (ilt (Int.ofNat i) (Int.ofNat n))), (ieq (l i) k)], (.nm, ⟨[(.sl 1 n (fun k => (iV (l k)))), (iV q), .und, .und, (bV Bool.false), (iV k), (iV x), (iV y), (iV (wr IntKind.i64 (iadd (Int.ofNat i) 1))), .und, .und, .und, .und, .und, .und, .und, .und, .und, .und, .und, .und, .und, .und, .und, .und, .und, .und, .und, .und, .und, .und, .und, .und, .und, .und, .und, .und, .und, .und, .und, .und, .und, .und, .und, .und, .und, .und, .und, .und], []⟩)) := by kernel_rfl
theorem rc62n (L : Nat → (St → T (Ex × St)) → St → T (Ex × St)) (n : Nat) (l : Nat → Int) (q : Int) (k x y : Int) (i : Nat)  (j : Nat → V) (h0 : ilt (Int.ofNat i) (Int.ofNat n) = true) (h1 : band (ile 0 (Int.ofNat i)) (ilt (Int.ofNat i) (Int.ofNat n)) = true) (h2 : ieq (l i) k = false) : ((body62_2 L (st62_2 n l q k x y i j)).bind fun r => T.leaf (cutR (lp62_2 n l q) r)).sem = some (.nm, ⟨[(.sl 1 n (fun k => (iV (l k)))), (iV q), .und, .und, (bV Bool.false), (iV k), (iV x), (iV y), (iV (wr IntKind.i64 (iadd (Int.ofNat i) 1))), .und, .und, .und, .und, .und, .und, .und, .und, .und, .und, .und, .und, .und, .und, .und, .und, .und, .und, .und, .und, .und, .und, .und, .und, .und, .und, .und, .und, .und, .und, .und, .und, .und, .und, .und, .und, .und, .und, .und, .und], []⟩) := by
  exact sem_of_path (rc62n_p L n l q k x y i j) (by simp only [h1] <;> simp only [h0, h2] <;> rfl)
theorem rc62a_p (L : Nat → (St → T (Ex × St)) → St → T (Ex × St)) (n : Nat) (l : Nat → Int) (q : Int) (k x y : Int) (i : Nat)  (j : Nat → V) : ((body62_2 L (st62_2 n l q k x y i j)).bind fun r => T.leaf (cutR (lp62_2 n l q) r)).path [true, true, true, false, true, false] = some ([(ilt (Int.ofNat i) (Int.ofNat n)), (band (ile 0 (Int.ofNat i)) (ilt (Int.ofNat i) (Int.ofNat n))), (ieq (l i) k), (ieq (Int.ofNat n) 0), (band (ile 0 (itmod (wr IntKind.i64 (isub (wr IntKind.i64 (iadd (Int.ofNat i) (Int.ofNat n))) 1)) (Int.ofNat n))) (ilt (itmod (wr IntKind.i64 (isub (wr IntKind.i64 (iadd (Int.ofNat i) (Int.ofNat n))) 1)) (Int.ofNat n)) (Int.ofNat n))), (bnot (ieq (l (toN (itmod (wr IntKind.i64 (isub (wr IntKind.i64 (iadd (Int.ofNat i) (Int.ofNat n))) 1)) (Int.ofNat n)))) k))], (.nm, ⟨[(.sl 1 n (fun k => (iV (l k)))), (iV q), .und, .und, (bV Bool.false), (iV k), (iV x), (iV (wr IntKind.i64 (iadd y 1))), (iV (wr IntKind.i64 (iadd (Int.ofNat i) 1))), .und, .und, .und, .und, .und, .und, .und, .und, .und, .und, .und, .und, .und, .und, .und, .und, .und, .und, .und, .und, .und, .und, .und, .und, .und, .und, .und, .und, .und, .und, .und, .und, .und, .und, .und, .und, .und, .und, .und, .und], []⟩)) := by kernel_rfl
theorem rc62a (L : Nat → (St → T (Ex × St)) → St → T (Ex × St)) (n : Nat) (l : Nat → Int) (q : Int) (k x y : Int) (i : Nat)  (j : Nat → V) (h0 : ilt (Int.ofNat i) (Int.ofNat n) = true) (h1 : band (ile 0 (Int.ofNat i)) (ilt (Int.ofNat i) (Int.ofNat n)) = true) (h2 : ieq (l i) k = true) (h3 : ieq (Int.ofNat n) 0 = false) (h4 : band (ile 0 (itmod (wr IntKind.i64 (isub (wr IntKind.i64 (iadd (Int.ofNat i) (Int.ofNat n))) 1)) (Int.ofNat n))) (ilt (itmod (wr IntKind.i64 (isub (wr IntKind.i64 (iadd (Int.ofNat i) (Int.ofNat n))) 1)) (Int.ofNat n)) (Int.ofNat n)) = true) (h5 : ieq (l (toN (itmod (wr IntKind.i64 (isub (wr IntKind.i64 (iadd (Int.ofNat i) (Int.ofNat n))) 1)) (Int.ofNat n)))) k = true) : ((body62_2 L (st62_2 n l q k x y i j)).bind fun r => T.leaf (cutR (lp62_2 n l q) r)).sem = some (.nm, ⟨[(.sl 1 n (fun k => (iV (l k)))), (iV q), .und, .und, (bV Bool.false), (iV k), (iV x), (iV (wr IntKind.i64 (iadd y 1))), (iV (wr IntKind.i64 (iadd (Int.ofNat i) 1))), .und, .und, .und, .und, .und, .und, .und, .und, .und, .und, .und, .und, .und, .und, .und, .und, .und, .und, .und, .und, .und, .und, .und, .und, .und, .und, .und, .und, .und, .und, .und, .und, .und, .und, .und, .und, .und, .und, .und, .und], []⟩) := by
  exact sem_of_path (rc62a_p L n l q k x y i j) (by simp only [h1, h4] <;> simp only [h0, h2, h3, h5] <;> rfl)
theorem rc62b_p (L : Nat → (St → T (Ex × St)) → St → T (Ex × St)) (n : Nat) (l : Nat → Int) (q : Int) (k x y : Int) (i : Nat)  (j : Nat → V) : ((body62_2 L (st62_2 n l q k x y i j)).bind fun r => T.leaf (cutR (lp62_2 n l q) r)).path [true, true, true, false, true, true] = some ([(ilt (Int.ofNat i) (Int.ofNat n)), (band (ile 0 (Int.ofNat i)) (ilt (Int.ofNat i) (Int.ofNat n))), (ieq (l i) k), (ieq (Int.ofNat n) 0), (band (ile 0 (itmod (wr IntKind.i64 (isub (wr IntKind.i64 (iadd (Int.ofNat i) (Int.ofNat n))) 1)) (Int.ofNat n))) (ilt (itmod (wr IntKind.i64 (isub (wr IntKind.i64 (iadd (Int.ofNat i) (Int.ofNat n))) 1)) (Int.ofNat n)) (Int.ofNat n))), (bnot (ieq (l (toN (itmod (wr IntKind.i64 (isub (wr IntKind.i64 (iadd (Int.ofNat i) (Int.ofNat n))) 1)) (Int.ofNat n)))) k))], (.nm, ⟨[(.sl 1 n (fun k => (iV (l k)))), (iV q), .und, .und, (bV Bool.false), (iV k), (iV (wr IntKind.i64 (iadd x 1))), (iV (wr IntKind.i64 (iadd y 1))), (iV (wr IntKind.i64 (iadd (Int.ofNat i) 1))), .und, .und, .und, .und, .und, .und, .und, .und, .und, .und, .und, .und, .und, .und, .und, .und, .und, .und, .und, .und, .und, .und, .und, .und, .und, .und, .und, .und, .und, .und, .und, .und, .und, .und, .und, .und, .und, .und, .und, .und], []⟩)) := by kernel_rfl
theorem rc62b (L : Nat → (St → T (Ex × St)) → St → T (Ex × St)) (n : Nat) (l : Nat → Int) (q : Int) (k x y : Int) (i : Nat)  (j : Nat → V) (h0 : ilt (Int.ofNat i) (Int.ofNat n) = true) (h1 : band (ile 0 (Int.ofNat i)) (ilt (Int.ofNat i) (Int.ofNat n)) = true) (h2 : ieq (l i) k = true) (h3 : ieq (Int.ofNat n) 0 = false) (h4 : band (ile 0 (itmod (wr IntKind.i64 (isub (wr IntKind.i64 (iadd (Int.ofNat i) (Int.ofNat n))) 1)) (Int.ofNat n))) (ilt (itmod (wr IntKind.i64 (isub (wr IntKind.i64 (iadd (Int.ofNat i) (Int.ofNat n))) 1)) (Int.ofNat n)) (Int.ofNat n)) = true) (h5 : ieq (l (toN (itmod (wr IntKind.i64 (isub (wr IntKind.i64 (iadd (Int.ofNat i) (Int.ofNat n))) 1)) (Int.ofNat n)))) k = false) : ((body62_2 L (st62_2 n l q k x y i j)).bind fun r => T.leaf (cutR (lp62_2 n l q) r)).sem = some (.nm, ⟨[(.sl 1 n (fun k => (iV (l k)))), (iV q), .und, .und, (bV Bool.false), (iV k), (iV (wr IntKind.i64 (iadd x 1))), (iV (wr IntKind.i64 (iadd y 1))), (iV (wr IntKind.i64 (iadd (Int.ofNat i) 1))), .und, .und, .und, .und, .und, .und, .und, .und, .und, .und, .und, .und, .und, .und, .und, .und, .und, .und, .und, .und, .und, .und, .und, .und, .und, .und, .und, .und, .und, .und, .und, .und, .und, .und, .und, .und, .und, .und, .und, .und], []⟩) := by
  exact sem_of_path (rc62b_p L n l q k x y i j) (by simp only [h1, h4] <;> simp only [h0, h2, h3, h5] <;> rfl)

def lp62 (n : Nat) (l : Nat → Int) (q : Int) : Lp := ⟨[true, true, false, false, true, true, false, false, false, false, false, false, false, false, false, false, false, false, false, false, false, false, false, false, false, false, false, false, false, false, false, false, false, false, false, false, false, false, false, false, false, false, false, false, false, false, false, false, false], 0, [true, true, false, false, true, false, false, false, false, false, false, false, false, false, false, false, false, false, false, false, false, false, false, false, false, false, false, false, false, false, false, false, false, false, false, false, false, false, false, false, false, false, false, false, false, false, false, false, false], 0, toN q + 1⟩
def st62 (n : Nat) (l : Nat → Int) (q : Int) (k : Int) (j : Nat → V) : St := ⟨[.sl 1 n (fun k => iV (l k)), iV q, j 2, j 3, bV false, iV k, j 6, j 7, j 8, j 9, j 10, j 11, j 12, j 13, j 14, j 15, j 16, j 17, j 18, j 19, j 20, j 21, j 22, j 23, j 24, j 25, j 26, j 27, j 28, j 29, j 30, j 31, j 32, j 33, j 34, j 35, j 36, j 37, j 38, j 39, j 40, j 41, j 42, j 43, j 44, j 45, j 46, j 47, j 48], []⟩
def en62e (n : Nat) (l : Nat → Int) (q : Int) (k : Int) : Ex × St := (.ex 0, ⟨[.sl 1 n (fun k => iV (l k)), iV q, .und, .und, bV false, .und, .und, .und, .und, .und, .und, .und, .und, .und, .und, .und, .und, .und, .und, .und, .und, .und, .und, .und, .und, .und, .und, .und, .und, .und, .und, .und, .und, .und, .und, .und, .und, .und, .und, .und, .und, .und, .und, .und, .und, .und, .und, .und, .und], []⟩)
noncomputable def body62 (L : Nat → (St → T (Ex × St)) → St → T (Ex × St)) : St → T (Ex × St) := fun st => evalC tab ⟨callT tb0, L, Gl⟩ (loopBody Tryd.f62 0) 0 st
theorem rd62e_p (L : Nat → (St → T (Ex × St)) → St → T (Ex × St)) (n : Nat) (l : Nat → Int) (q : Int) (k : Int)  (j : Nat → V) : ((body62 L (st62 n l q k j)).bind fun r => T.leaf (cutR (lp62 n l q) r)).path [false] = some ([(ilt k q)], ((.ex 0), ⟨[(.sl 1 n (fun k => (iV (l k)))), (iV q), .und, .und, (bV Bool.false), .und, .und, .und, .und, .und, .und, .und, .und, .und, .und, .und, .und, .und, .und, .und, .und, .und, .und, .und, .und, .und, .und, .und, .und, .und, .und, .und, .und, .und, .und, .und, .und, .und, .und, .und, .und, .und, .und, .und, .und, .und, .und, .und, .und], []⟩)) := by kernel_rfl
theorem rd62e (L : Nat → (St → T (Ex × St)) → St → T (Ex × St)) (n : Nat) (l : Nat → Int) (q : Int) (k : Int)  (j : Nat → V) (h0 : ilt k q = false) : ((body62 L (st62 n l q k j)).bind fun r => T.leaf (cutR (lp62 n l q) r)).sem = some ((.ex 0), ⟨[(.sl 1 n (fun k => (iV (l k)))), (iV q), .und, .und, (bV Bool.false), .und, .und, .und, .und, .und, .und, .und, .und, .und, .und, .und, .und, .und, .und, .und, .und, .und, .und, .und, .und, .und, .und, .und, .und, .und, .und, .und, .und, .und, .und, .und, .und, .und, .und, .und, .und, .und, .und, .und, .und, .und, .und, .und, .und], []⟩) := by
  exact sem_of_path (rd62e_p L n l q k j) (by simp only [h0] <;> rfl)

def ent62_2 (n : Nat) (l : Nat → Int) (q : Int) (k : Int) (j : Nat → V) : St := ⟨[(.sl 1 n (fun k => (iV (l k)))), (iV q), (j 2), (j 3), (bV Bool.false), (iV k), (iV 0), (iV 0), (iV 0), (iV k), (iV q), (bV (ilt k q)), (j 12), (j 13), (j 14), (j 15), (j 16), (j 17), (j 18), (j 19), (j 20), (j 21), (j 22), (j 23), (j 24), (j 25), (j 26), (j 27), (j 28), (j 29), (j 30), (j 31), (j 32), (j 33), (j 34), (j 35), (j 36), (j 37), (j 38), (j 39), (j 40), (j 41), (j 42), (j 43), (j 44), (j 45), (j 46), (j 47), (j 48)], []⟩

theorem rd62n_p (L : Nat → (St → T (Ex × St)) → St → T (Ex × St)) (p2 : (St → T (Ex × St)) → St → Bool) (n : Nat) (l : Nat → Int) (q : Int) (k x y : Int) (i : Nat) (j : Nat → V) : ((body62 (onP 2 p2 (en62_2e n l q k x y i) L) (st62 n l q k j)).bind fun r => T.leaf (cutR (lp62 n l q) r)).path [true, true, false, false, false, false] = some ([(ilt k q), (p2 (body62_2 (onP 2 p2 (en62_2e n l q k x y i) L)) (ent62_2 n l q k j)), (ieq y 0), (ieq y 0), (ieq y 0), (bnot (ieq x 1))], (.nm, ⟨[(.sl 1 n (fun k => (iV (l k)))), (iV q), .und, .und, (bV Bool.false), (iV (wr IntKind.i64 (iadd k 1))), .und, .und, .und, .und, .und, .und, .und, .und, .und, .und, .und, .und, .und, .und, .und, .und, .und, .und, .und, .und, .und, .und, .und, .und, .und, .und, .und, .und, .und, .und, .und, .und, .und, .und, .und, .und, .und, .und, .und, .und, .und, .und, .und], []⟩)) := by kernel_rfl
theorem rd62n (L : Nat → (St → T (Ex × St)) → St → T (Ex × St)) (p2 : (St → T (Ex × St)) → St → Bool) (n : Nat) (l : Nat → Int) (q : Int) (k x y : Int) (i : Nat) (j : Nat → V) (h0 : ilt k q = true) (h1 : ieq y 0 = false) (h2 : ieq x 1 = true) (hp2 : p2 (body62_2 (onP 2 p2 (en62_2e n l q k x y i) L)) (ent62_2 n l q k j) = true) : ((body62 (onP 2 p2 (en62_2e n l q k x y i) L) (st62 n l q k j)).bind fun r => T.leaf (cutR (lp62 n l q) r)).sem = some (.nm, ⟨[(.sl 1 n (fun k => (iV (l k)))), (iV q), .und, .und, (bV Bool.false), (iV (wr IntKind.i64 (iadd k 1))), .und, .und, .und, .und, .und, .und, .und, .und, .und, .und, .und, .und, .und, .und, .und, .und, .und, .und, .und, .und, .und, .und, .und, .und, .und, .und, .und, .und, .und, .und, .und, .und, .und, .und, .und, .und, .und, .und, .und, .und, .und, .und, .und], []⟩) := by
  exact sem_of_path (rd62n_p L p2 n l q k x y i j) (by simp only [hp2] <;> simp only [h0, h1, h2] <;> rfl)

def ent62 (n : Nat) (l : Nat → Int) (q : Int)  : St := ⟨[(.sl 1 n (fun i => (iV (l i)))), (iV q), undefV, undefV, (bV Bool.false), (iV 0), undefV, undefV, undefV, undefV, undefV, undefV, undefV, undefV, undefV, undefV, undefV, undefV, undefV, undefV, undefV, undefV, undefV, undefV, undefV, undefV, undefV, undefV, undefV, undefV, undefV, undefV, undefV, undefV, undefV, undefV, undefV, undefV, undefV, undefV, undefV, undefV, undefV, undefV, undefV, undefV, undefV, undefV, undefV], []⟩

theorem wc62_p (L : Nat → (St → T (Ex × St)) → St → T (Ex × St)) (p0 : (St → T (Ex × St)) → St → Bool) (n : Nat) (l : Nat → Int) (q : Int) (k : Int) : (finF (evalF tab ⟨callT tb0, (onP 0 p0 (en62e n l q k) L), Gl⟩ Tryd.f62 [intsV n l, iV q] [])).path [true] = some ([(p0 (body62 (onP 0 p0 (en62e n l q k) L)) (ent62 n l q))], ((bV Bool.true), [])) := by kernel_rfl
theorem wc62 (L : Nat → (St → T (Ex × St)) → St → T (Ex × St)) (p0 : (St → T (Ex × St)) → St → Bool) (n : Nat) (l : Nat → Int) (q : Int) (k : Int)  (hp0 : p0 (body62 (onP 0 p0 (en62e n l q k) L)) (ent62 n l q) = true) : (finF (evalF tab ⟨callT tb0, (onP 0 p0 (en62e n l q k) L), Gl⟩ Tryd.f62 [intsV n l, iV q] [])).sem = some ((bV Bool.true), []) := by
  exact sem_of_path (wc62_p L p0 n l q k) (by simp only [hp0] <;> rfl)

theorem run62i (L : Nat → (St → T (Ex × St)) → St → T (Ex × St)) (n : Nat) (l : Nat → Int) (q k : Int) (hn : n ≤ 4611686018427387904) : ∀ (d i : Nat) (j : Nat → V) (p : Nat), n = i + d → d < p →
    (iterT (body62_2 L) (lp62_2 n l q) p (st62_2 n l q k (Int.ofNat (cntB (beginP n l k) i)) (Int.ofNat (cntB (thereP l k) i)) i j)).sem = some (en62_2e n l q k (Int.ofNat (cntB (beginP n l k) n)) (Int.ofNat (cntB (thereP l k) n)) n)
  | 0, i, j, p + 1, h, _ => by
    have : n = i := by omega
    subst this
    exact iter_round (rc62e L n l q k (Int.ofNat (cntB (beginP n l k) n)) (Int.ofNat (cntB (thereP l k) n)) n j (ofNat_ge (Nat.le_refl _)))
  | d + 1, i, j, p + 1, h, h2 => by
    have hl : i < n := by omega
    have hx := cntB_le (beginP n l k) i
    have hy := cntB_le (thereP l k) i
    have e1 : (itmod (wr IntKind.i64 (isub (wr IntKind.i64 (iadd (Int.ofNat i) (Int.ofNat n))) 1)) (Int.ofNat n)) = Int.ofNat ((i + n - 1) % n) := by rw [wr_add (by omega), pred_wr (by omega) (by omega), mod_nat]
    have e2 : toN (Int.ofNat ((i + n - 1) % n)) = (i + n - 1) % n := rfl
    have hb : band (ile 0 (itmod (wr IntKind.i64 (isub (wr IntKind.i64 (iadd (Int.ofNat i) (Int.ofNat n))) 1)) (Int.ofNat n))) (ilt (itmod (wr IntKind.i64 (isub (wr IntKind.i64 (iadd (Int.ofNat i) (Int.ofNat n))) 1)) (Int.ofNat n)) (Int.ofNat n)) = true := by rw [e1]; exact ofNat_in (Nat.mod_lt _ (by omega))
    cases c1 : ieq (l i) k with
    | false =>
      rw [iter_round (rc62n L n l q k (Int.ofNat (cntB (beginP n l k) i)) (Int.ofNat (cntB (thereP l k) i)) i j (ofNat_lt hl) (ofNat_in hl) c1), goOn_nm, succ_wr hl hn, ← cntB_f (p := beginP n l k) (show beginP n l k i = false by rw [beginP, c1]; rfl), ← cntB_f (p := thereP l k) c1]
      exact run62i L n l q k hn d (i + 1) (fun _ => .und) p (by omega) (by omega)
    | true =>
      cases c2 : ieq (l ((i + n - 1) % n)) k with
      | true =>
        rw [iter_round (rc62a L n l q k (Int.ofNat (cntB (beginP n l k) i)) (Int.ofNat (cntB (thereP l k) i)) i j (ofNat_lt hl) (ofNat_in hl) c1 (ne_0 hl) hb (by rw [e1, e2]; exact c2)), goOn_nm, succ_wr hl hn, succ_wr (show cntB (thereP l k) i < n by omega) hn, ← cntB_f (p := beginP n l k) (show beginP n l k i = false by rw [beginP, c1, c2]; rfl), ← cntB_t (p := thereP l k) c1]
        exact run62i L n l q k hn d (i + 1) (fun _ => .und) p (by omega) (by omega)
      | false =>
        rw [iter_round (rc62b L n l q k (Int.ofNat (cntB (beginP n l k) i)) (Int.ofNat (cntB (thereP l k) i)) i j (ofNat_lt hl) (ofNat_in hl) c1 (ne_0 hl) hb (by rw [e1, e2]; exact c2)), goOn_nm, succ_wr hl hn, succ_wr (show cntB (thereP l k) i < n by omega) hn, succ_wr (show cntB (beginP n l k) i < n by omega) hn, ← cntB_t (p := beginP n l k) (show beginP n l k i = true by rw [beginP, c1, c2]; rfl), ← cntB_t (p := thereP l k) c1]
        exact run62i L n l q k hn d (i + 1) (fun _ => .und) p (by omega) (by omega)

def lps62 (n : Nat) (l : Nat → Int) (q : Int) : List (Nat × Lp) := [(0, lp62 n l q), (2, lp62_2 n l q)]
theorem ent62_2_eq (n : Nat) (l : Nat → Int) (q k : Int) (j : Nat → V) : ent62_2 n l q k j = st62_2 n l q k 0 0 0 (fun i => nth (ent62_2 n l q k j).t i) := by kernel_rfl
theorem ent62_eq (n : Nat) (l : Nat → Int) (q : Int) : ent62 n l q = st62 n l q 0 (fun i => nth (ent62 n l q).t i) := by kernel_rfl

theorem run62 (M : Nat → (St → T (Ex × St)) → St → T (Ex × St)) (hMM : LLe M M) (n : Nat) (l : Nat → Int) (K : Nat) (m2 : ∀ f st, M 2 f st = iterT f (lp62_2 n l (Int.ofNat K)) (n + 1) st) (hn : n ≤ 4611686018427387904) (hK : K ≤ n) (hs : ∀ k, k < K → cntB (thereP l (Int.ofNat k)) n ≠ 0 ∧ cntB (beginP n l (Int.ofNat k)) n = 1) : ∀ (d k : Nat) (j : Nat → V) (p : Nat), K = k + d → d < p →
    (iterT (body62 M) (lp62 n l (Int.ofNat K)) p (st62 n l (Int.ofNat K) (Int.ofNat k) j)).sem = some (en62e n l (Int.ofNat K) (Int.ofNat K))
  | 0, k, j, p + 1, h, _ => by
    have : K = k := by omega
    subst this
    exact iter_round (rd62e M n l (Int.ofNat K) (Int.ofNat K) j (ofNat_ge (Nat.le_refl _)))
  | d + 1, k, j, p + 1, h, h2 => by
    have hl : k < K := by omega
    obtain ⟨s1, s2⟩ := hs k hl
    have hi : ∀ M', (M 2 (body62_2 M') (ent62_2 n l (Int.ofNat K) (Int.ofNat k) j)).sem = some (en62_2e n l (Int.ofNat K) (Int.ofNat k) (Int.ofNat (cntB (beginP n l (Int.ofNat k)) n)) (Int.ofNat (cntB (thereP l (Int.ofNat k)) n)) n) := fun M' => by
      rw [m2, ent62_2_eq]
      exact run62i M' n l (Int.ofNat K) (Int.ofNat k) hn n 0 _ (n + 1) (by omega) (by omega)
    have f1 : ieq (Int.ofNat (cntB (thereP l (Int.ofNat k)) n)) 0 = false := by rw [show (0 : Int) = Int.ofNat 0 from rfl, ieq_nat, decide_eq_false s1]
    have f2 : ieq (Int.ofNat (cntB (beginP n l (Int.ofNat k)) n)) 1 = true := by rw [s2]; rfl
    have h3 := rd62n M _ n l (Int.ofNat K) (Int.ofNat k) (Int.ofNat (cntB (beginP n l (Int.ofNat k)) n)) (Int.ofNat (cntB (thereP l (Int.ofNat k)) n)) n j (ofNat_lt hl) f1 f2 (isP_true (hi _))
    have h4 : roundT (body62 M) (lp62 n l (Int.ofNat K)) (st62 n l (Int.ofNat K) (Int.ofNat k) j) = _ := roundT_le (l := lp62 n l (Int.ofNat K)) (evalC_le (Γ := ⟨callT tb0, M, Gl⟩) (onP_le hMM hMM) (loopBody Tryd.f62 0) 0 (st62 n l (Int.ofNat K) (Int.ofNat k) j)) h3
    rw [iter_round h4, goOn_nm, succ_wr hl (by omega)]
    exact run62 M hMM n l K m2 hn hK hs d (k + 1) (fun _ => .und) p (by omega) (by omega)

def sideT : List V → T (V × List Blk)
  | [u, .val (.int .i64 q)] => apI u fun n l => .br (smallN n) (.br (sideB n l q) (out (bV true)) .fail) .fail
  | _ => .fail

theorem p62 : PureC Tryd.prog Gl 62 sideT := by
  refine pureC_intro tabOK mixed Tryd.func62 (by kernel_rfl) (by kernel_rfl) fun vs v h' h => ?_
  unfold sideT at h
  split at h
  · rename_i u q
    obtain ⟨n, l, ha, h1⟩ := apI_some h
    obtain ⟨hn, h2⟩ := sem_br_fail h1
    obtain ⟨hs, hq⟩ := sem_br_fail h2
    have := sem_leaf hq
    simp only [Prod.mk.injEq] at this
    obtain ⟨rfl, rfl⟩ := this
    have hn : n ≤ 4611686018427387904 := of_decide_eq_true hn
    simp only [sideB, Bool.and_eq_true, decide_eq_true_eq] at hs
    obtain ⟨q1, q2, q3⟩ := hs
    obtain ⟨K, rfl⟩ : ∃ K : Nat, q = Int.ofNat K := ⟨q.toNat, by simp only [Int.ofNat_eq_natCast]; omega⟩
    have hK : K ≤ n := by simp only [Int.ofNat_eq_natCast] at q2; omega
    have q4 : ∀ k, k < K → cntB (thereP l (Int.ofNat k)) n ≠ 0 ∧ cntB (beginP n l (Int.ofNat k)) n = 1 := fun k hk => by
      have := allN_iff.1 q3 k hk
      simp only [Bool.and_eq_true, Bool.not_eq_true', decide_eq_false_iff_not, decide_eq_true_eq] at this
      exact this
    have hA : ArgLE [u, .val (.int .i64 (Int.ofNat K))] [intsV n l, iV (Int.ofNat K)] := fun S w cs hv => by
      obtain ⟨c, l1, rfl, r1, r2⟩ := hv
      exact ⟨c, l1, rfl, ha S w c r1, r2⟩
    have hx := cx_ok tb0_ok (lps62 n l (Int.ofNat K))
    have hL := loopsBy_le (lps62 n l (Int.ofNat K))
    refine ⟨_, cxOf Gl tb0 (lps62 n l (Int.ofNat K)), _, hA, rfl, hx.1, hx.2, ?_, RowsLE.refl _⟩
    refine told_le (onP_le hL hL) _ (wc62 _ _ n l (Int.ofNat K) (Int.ofNat K) (isP_true ?_))
    generalize hM : onP 0 (isP (loopsBy (lps62 n l (Int.ofNat K))) 0 (en62e n l (Int.ofNat K) (Int.ofNat K))) (en62e n l (Int.ofNat K) (Int.ofNat K)) (loopsBy (lps62 n l (Int.ofNat K))) = M
    have hMM : LLe M M := by rw [← hM]; exact isPle hL 0 _
    have m2 : ∀ f st, M 2 f st = iterT f (lp62_2 n l (Int.ofNat K)) (n + 1) st := fun f st => by rw [← hM]; rfl
    show (iterT (body62 M) (lp62 n l (Int.ofNat K)) (K + 1) (ent62 n l (Int.ofNat K))).sem = _
    rw [ent62_eq]
    exact run62 M hMM n l K m2 hn hK q4 K 0 _ (K + 1) (by omega) (by omega)
  · cases h

#print axioms p62
end Go.Proofs.YtcaljjnadbpacaaDoor.Ed
