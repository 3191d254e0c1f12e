/-
  Layer 5: classes and words, of a vocabulary. No conditions.
-/
import Derived.Test.YtdmjcpindopjdaaCoWd
namespace Go.Proofs.Ytdmjcpindopjdaa.Co
open Go.Sy

theorem mob_congr (v u : Nat → Int) (n : Nat) (h1 : 1 ≤ n) (hn : n ≤ 16) (h : ∀ i, 1 ≤ i → i ≤ n → n % i = 0 → v i = u i) : mobN v n = mobN u n := by
  rcases nat16 h1 hn with rfl | rfl | rfl | rfl | rfl | rfl | rfl | rfl | rfl | rfl | rfl | rfl | rfl | rfl | rfl | rfl
  · simp only [mobN, h 1 (by decide) (by decide) (by decide)]
  · simp only [mobN, h 1 (by decide) (by decide) (by decide), h 2 (by decide) (by decide) (by decide)]
  · simp only [mobN, h 1 (by decide) (by decide) (by decide), h 3 (by decide) (by decide) (by decide)]
  · simp only [mobN, h 1 (by decide) (by decide) (by decide), h 2 (by decide) (by decide) (by decide), h 4 (by decide) (by decide) (by decide)]
  · simp only [mobN, h 1 (by decide) (by decide) (by decide), h 5 (by decide) (by decide) (by decide)]
  · simp only [mobN, h 1 (by decide) (by decide) (by decide), h 2 (by decide) (by decide) (by decide), h 3 (by decide) (by decide) (by decide), h 6 (by decide) (by decide) (by decide)]
  · simp only [mobN, h 1 (by decide) (by decide) (by decide), h 7 (by decide) (by decide) (by decide)]
  · simp only [mobN, h 1 (by decide) (by decide) (by decide), h 2 (by decide) (by decide) (by decide), h 4 (by decide) (by decide) (by decide), h 8 (by decide) (by decide) (by decide)]
  · simp only [mobN, h 1 (by decide) (by decide) (by decide), h 3 (by decide) (by decide) (by decide), h 9 (by decide) (by decide) (by decide)]
  · simp only [mobN, h 1 (by decide) (by decide) (by decide), h 2 (by decide) (by decide) (by decide), h 5 (by decide) (by decide) (by decide), h 10 (by decide) (by decide) (by decide)]
  · simp only [mobN, h 1 (by decide) (by decide) (by decide), h 11 (by decide) (by decide) (by decide)]
  · simp only [mobN, h 1 (by decide) (by decide) (by decide), h 2 (by decide) (by decide) (by decide), h 3 (by decide) (by decide) (by decide), h 4 (by decide) (by decide) (by decide), h 6 (by decide) (by decide) (by decide), h 12 (by decide) (by decide) (by decide)]
  · simp only [mobN, h 1 (by decide) (by decide) (by decide), h 13 (by decide) (by decide) (by decide)]
  · simp only [mobN, h 1 (by decide) (by decide) (by decide), h 2 (by decide) (by decide) (by decide), h 7 (by decide) (by decide) (by decide), h 14 (by decide) (by decide) (by decide)]
  · simp only [mobN, h 1 (by decide) (by decide) (by decide), h 3 (by decide) (by decide) (by decide), h 5 (by decide) (by decide) (by decide), h 15 (by decide) (by decide) (by decide)]
  · simp only [mobN, h 1 (by decide) (by decide) (by decide), h 2 (by decide) (by decide) (by decide), h 4 (by decide) (by decide) (by decide), h 8 (by decide) (by decide) (by decide), h 16 (by decide) (by decide) (by decide)]

/-- The sum of what is told of the divisors of n up to d. -/
def sum1 (W : Nat → Int) (n : Nat) : Nat → Int
  | 0 => 0
  | d + 1 => if n % (d + 1) = 0 then sum1 W n d + W (d + 1) else sum1 W n d

theorem sum1_le (W : Nat → Int) (n : Nat) (hW : ∀ e, 1 ≤ e → e ≤ n → n % e = 0 → 0 ≤ W e) : ∀ d, d ≤ n → 0 ≤ sum1 W n d ∧ sum1 W n d ≤ sumW W n d
  | 0, _ => ⟨Int.le_refl _, Int.le_refl _⟩
  | d + 1, h => by
    obtain ⟨h1, h2⟩ := sum1_le W n hW d (by omega)
    unfold sum1 sumW
    split
    · rename_i hd
      have h3 := hW (d + 1) (by omega) h hd
      have h4 := Int.mul_le_mul_of_nonneg_right (show (1 : Int) ≤ Int.ofNat (d + 1) by simp; omega) h3
      omega
    · exact ⟨h1, h2⟩

theorem sumC_all (g : Nat → Int) (n : Nat) (h1 : 1 ≤ n) (hn : n ≤ 16) (h : ∀ e, 1 ≤ e → e ≤ n → n % e = 0 → Int.ofNat e * wrdN g e = mobN g e) : sumC g n n = Int.ofNat n * sum1 (wrdN g) n n := by
  generalize wrdN g = W at *
  have t1 : totI 1 = 1 := by decide
  have t2 : totI 2 = 1 := by decide
  have t3 : totI 3 = 2 := by decide
  have t4 : totI 4 = 2 := by decide
  have t5 : totI 5 = 4 := by decide
  have t6 : totI 6 = 2 := by decide
  have t7 : totI 7 = 6 := by decide
  have t8 : totI 8 = 4 := by decide
  have t9 : totI 9 = 6 := by decide
  have t10 : totI 10 = 4 := by decide
  have t11 : totI 11 = 10 := by decide
  have t12 : totI 12 = 4 := by decide
  have t13 : totI 13 = 12 := by decide
  have t14 : totI 14 = 6 := by decide
  have t15 : totI 15 = 8 := by decide
  have t16 : totI 16 = 8 := by decide
  rcases nat16 h1 hn with rfl | rfl | rfl | rfl | rfl | rfl | rfl | rfl | rfl | rfl | rfl | rfl | rfl | rfl | rfl | rfl
  · have h1 := h 1 (by decide) (by decide) (by decide); simp [mobN] at h1; simp [sumC, sum1, t1]; omega
  · have h1 := h 1 (by decide) (by decide) (by decide); have h2 := h 2 (by decide) (by decide) (by decide); simp [mobN] at h1 h2; simp [sumC, sum1, t1, t2]; omega
  · have h1 := h 1 (by decide) (by decide) (by decide); have h3 := h 3 (by decide) (by decide) (by decide); simp [mobN] at h1 h3; simp [sumC, sum1, t1, t3]; omega
  · have h1 := h 1 (by decide) (by decide) (by decide); have h2 := h 2 (by decide) (by decide) (by decide); have h4 := h 4 (by decide) (by decide) (by decide); simp [mobN] at h1 h2 h4; simp [sumC, sum1, t1, t2, t4]; omega
  · have h1 := h 1 (by decide) (by decide) (by decide); have h5 := h 5 (by decide) (by decide) (by decide); simp [mobN] at h1 h5; simp [sumC, sum1, t1, t5]; omega
  · have h1 := h 1 (by decide) (by decide) (by decide); have h2 := h 2 (by decide) (by decide) (by decide); have h3 := h 3 (by decide) (by decide) (by decide); have h6 := h 6 (by decide) (by decide) (by decide); simp [mobN] at h1 h2 h3 h6; simp [sumC, sum1, t1, t2, t3, t6]; omega
  · have h1 := h 1 (by decide) (by decide) (by decide); have h7 := h 7 (by decide) (by decide) (by decide); simp [mobN] at h1 h7; simp [sumC, sum1, t1, t7]; omega
  · have h1 := h 1 (by decide) (by decide) (by decide); have h2 := h 2 (by decide) (by decide) (by decide); have h4 := h 4 (by decide) (by decide) (by decide); have h8 := h 8 (by decide) (by decide) (by decide); simp [mobN] at h1 h2 h4 h8; simp [sumC, sum1, t1, t2, t4, t8]; omega
  · have h1 := h 1 (by decide) (by decide) (by decide); have h3 := h 3 (by decide) (by decide) (by decide); have h9 := h 9 (by decide) (by decide) (by decide); simp [mobN] at h1 h3 h9; simp [sumC, sum1, t1, t3, t9]; omega
  · have h1 := h 1 (by decide) (by decide) (by decide); have h2 := h 2 (by decide) (by decide) (by decide); have h5 := h 5 (by decide) (by decide) (by decide); have h10 := h 10 (by decide) (by decide) (by decide); simp [mobN] at h1 h2 h5 h10; simp [sumC, sum1, t1, t2, t5, t10]; omega
  · have h1 := h 1 (by decide) (by decide) (by decide); have h11 := h 11 (by decide) (by decide) (by decide); simp [mobN] at h1 h11; simp [sumC, sum1, t1, t11]; omega
  · have h1 := h 1 (by decide) (by decide) (by decide); have h2 := h 2 (by decide) (by decide) (by decide); have h3 := h 3 (by decide) (by decide) (by decide); have h4 := h 4 (by decide) (by decide) (by decide); have h6 := h 6 (by decide) (by decide) (by decide); have h12 := h 12 (by decide) (by decide) (by decide); simp [mobN] at h1 h2 h3 h4 h6 h12; simp [sumC, sum1, t1, t2, t3, t4, t6, t12]; omega
  · have h1 := h 1 (by decide) (by decide) (by decide); have h13 := h 13 (by decide) (by decide) (by decide); simp [mobN] at h1 h13; simp [sumC, sum1, t1, t13]; omega
  · have h1 := h 1 (by decide) (by decide) (by decide); have h2 := h 2 (by decide) (by decide) (by decide); have h7 := h 7 (by decide) (by decide) (by decide); have h14 := h 14 (by decide) (by decide) (by decide); simp [mobN] at h1 h2 h7 h14; simp [sumC, sum1, t1, t2, t7, t14]; omega
  · have h1 := h 1 (by decide) (by decide) (by decide); have h3 := h 3 (by decide) (by decide) (by decide); have h5 := h 5 (by decide) (by decide) (by decide); have h15 := h 15 (by decide) (by decide) (by decide); simp [mobN] at h1 h3 h5 h15; simp [sumC, sum1, t1, t3, t5, t15]; omega
  · have h1 := h 1 (by decide) (by decide) (by decide); have h2 := h 2 (by decide) (by decide) (by decide); have h4 := h 4 (by decide) (by decide) (by decide); have h8 := h 8 (by decide) (by decide) (by decide); have h16 := h 16 (by decide) (by decide) (by decide); simp [mobN] at h1 h2 h4 h8 h16; simp [sumC, sum1, t1, t2, t4, t8, t16]; omega

theorem clsN_eq (g : Nat → Int) (n : Nat) (h1 : 1 ≤ n) (hn : n ≤ 16) (h : ∀ e, 1 ≤ e → e ≤ n → n % e = 0 → Int.ofNat e * wrdN g e = mobN g e) : clsN g n = sum1 (wrdN g) n n := by
  unfold clsN
  rw [sumC_all g n h1 hn h, Int.mul_ediv_cancel_left _ (show Int.ofNat n ≠ 0 by simp; omega)]

/-! ### Of a matrix -/

theorem sumW_sub (W : Nat → Int) (n d : Nat) (hW : ∀ e, 1 ≤ e → e ≤ n → n % e = 0 → 0 ≤ W e) (hd : n % d = 0) (hn : 1 ≤ n) : ∀ j, j ≤ n → sumW W d j ≤ sumW W n j
  | 0, _ => Int.le_refl _
  | j + 1, hj => by
    have ih := sumW_sub W n d hW hd hn j (by omega)
    have hs := sumW_step W n hW j (by omega)
    by_cases h : d % (j + 1) = 0
    · have h2 : n % (j + 1) = 0 := Nat.mod_eq_zero_of_dvd (Nat.dvd_trans (Nat.dvd_of_mod_eq_zero h) (Nat.dvd_of_mod_eq_zero hd))
      rw [sumW, sumW, if_pos h, if_pos h2]
      omega
    · rw [sumW, if_neg h]
      omega

theorem cl_dvd (m : N4) (n d : Nat) (h1 : 1 ≤ n) (hn : n ≤ 16) (hd : n % d = 0) (hd1 : 1 ≤ d) (hdn : d ≤ n) : trI m d ≤ trI m n := by
  have a := sumW_all (trI m) n h1 hn fun e e1 e2 _ => wrd_mul m e e1 (by omega)
  have b := sumW_all (trI m) d hd1 (by omega) fun e e1 e2 _ => wrd_mul m e e1 (by omega)
  have hW : ∀ e, 1 ≤ e → e ≤ n → n % e = 0 → 0 ≤ wrdN (trI m) e := fun e e1 e2 _ => wrd_nonneg m e e1 (by omega)
  have c := sumW_sub (wrdN (trI m)) n d hW hd h1 d hdn
  have e := sumW_mono (wrdN (trI m)) n hW (n - d) d (by omega)
  rw [show d + (n - d) = n by omega] at e
  omega

theorem mod_trans {n d e : Nat} (h : n % d = 0) (h2 : d % e = 0) : n % e = 0 := Nat.mod_eq_zero_of_dvd (Nat.dvd_trans (Nat.dvd_of_mod_eq_zero h2) (Nat.dvd_of_mod_eq_zero h))

theorem dvd_pos {n d : Nat} (h1 : 1 ≤ n) (h : n % d = 0) : 1 ≤ d ∧ d ≤ n := by
  have hd := Nat.dvd_of_mod_eq_zero h
  exact ⟨Nat.pos_of_dvd_of_pos hd h1, Nat.le_of_dvd h1 hd⟩

/-- What the closed lists, up to 2^63, are where those of n are below it. -/
theorem wV_small (n : Nat) (f : Nat → E6) (hn : n ≤ 128) (k : Nat) (h1 : 1 ≤ k) (h2 : k ≤ 16) (hs : cl05 n f k < 9223372036854775808) (d : Nat) (hd : k % d = 0) : wV n f d = cl05 n f d ∧ 0 ≤ cl05 n f d ∧ cl05 n f d < 9223372036854775808 := by
  obtain ⟨d1, d2⟩ := dvd_pos h1 hd
  have hle : cl05 n f d ≤ cl05 n f k := cl_dvd (natM n f) k d h1 h2 hd d1 d2
  have h0 : 0 ≤ cl05 n f d := trI_nonneg _ _
  exact ⟨by rw [wV_sat n f hn d d1, sat_small (by omega)], h0, by omega⟩

theorem wrd_wV (n : Nat) (f : Nat → E6) (hn : n ≤ 128) (k : Nat) (h1 : 1 ≤ k) (h2 : k ≤ 16) (hs : cl05 n f k < 9223372036854775808) (d : Nat) (hd : k % d = 0) : mobN (wV n f) d = mobN (cl05 n f) d ∧ wrdN (wV n f) d = wrdN (cl05 n f) d := by
  obtain ⟨d1, d2⟩ := dvd_pos h1 hd
  have e := mob_congr (wV n f) (cl05 n f) d d1 (by omega) fun i _ _ hi => (wV_small n f hn k h1 h2 hs i (mod_trans hd hi)).1
  exact ⟨e, by unfold wrdN; rw [e]⟩

theorem wOK_wV (n : Nat) (f : Nat → E6) (hn : n ≤ 128) (k : Nat) (h1 : 1 ≤ k) (h2 : k ≤ 16) (hs : cl05 n f k < 9223372036854775808) : wOK (wV n f) k = true := by
  refine wOK_iff.2 fun e e1 e2 e3 => ?_
  obtain ⟨a1, a2⟩ := wrd_wV n f hn k h1 h2 hs e e3
  refine ⟨okU_wV n f hn e, ?_, ?_⟩
  · rw [a2]; exact wrd_nonneg (natM n f) e e1 (by omega)
  · rw [a1, a2]; exact wrd_mul (natM n f) e e1 (by omega)

/-- The classes of k edges. -/
def cls05 (n : Nat) (f : Nat → E6) (k : Nat) : Int := sum1 (wrdN (cl05 n f)) k k

theorem sum1_congr (W U : Nat → Int) (n : Nat) (h : ∀ e, 1 ≤ e → n % e = 0 → W e = U e) : ∀ d, sum1 W n d = sum1 U n d
  | 0 => rfl
  | d + 1 => by
    unfold sum1
    rw [sum1_congr W U n h d]
    split
    · rename_i hd
      rw [h (d + 1) (by omega) hd]
    · rfl

theorem cls_bound (m : N4) (k : Nat) (h1 : 1 ≤ k) (h2 : k ≤ 16) : 0 ≤ sum1 (wrdN (trI m)) k k ∧ sum1 (wrdN (trI m)) k k ≤ trI m k := by
  have hW : ∀ e, 1 ≤ e → e ≤ k → k % e = 0 → 0 ≤ wrdN (trI m) e := fun e e1 e2 _ => wrd_nonneg m e e1 (by omega)
  have a := sum1_le (wrdN (trI m)) k hW k (Nat.le_refl _)
  rw [sumW_all (trI m) k h1 h2 fun e e1 e2 _ => wrd_mul m e e1 (by omega)] at a
  exact a

theorem cls_wV (n : Nat) (f : Nat → E6) (hn : n ≤ 128) (k : Nat) (h1 : 1 ≤ k) (h2 : k ≤ 16) (hs : cl05 n f k < 9223372036854775808) :
    clsN (wV n f) k = cls05 n f k ∧ sumC (wV n f) k k < Int.ofNat k * 18446744073709551616 ∧ 0 ≤ cls05 n f k ∧ cls05 n f k < 9223372036854775808 := by
  have hO := wOK_iff.1 (wOK_wV n f hn k h1 h2 hs)
  have hm : ∀ e, 1 ≤ e → e ≤ k → k % e = 0 → Int.ofNat e * wrdN (wV n f) e = mobN (wV n f) e := fun e e1 e2 e3 => (hO e e1 e2 e3).2.2
  have hc : sum1 (wrdN (wV n f)) k k = cls05 n f k := sum1_congr _ _ k (fun e _ he => (wrd_wV n f hn k h1 h2 hs e he).2) k
  have hb : 0 ≤ cls05 n f k ∧ cls05 n f k ≤ cl05 n f k := cls_bound (natM n f) k h1 h2
  have hk : (0 : Int) < Int.ofNat k := by simp; omega
  refine ⟨by rw [clsN_eq _ k h1 h2 hm, hc], ?_, hb.1, by omega⟩
  rw [sumC_all _ k h1 h2 hm, hc]
  exact Int.mul_lt_mul_of_pos_left (by omega) hk

theorem wrd_bound (n : Nat) (f : Nat → E6) (k : Nat) (h1 : 1 ≤ k) (h2 : k ≤ 16) (hs : cl05 n f k < 9223372036854775808) : 0 ≤ wrdN (cl05 n f) k ∧ wrdN (cl05 n f) k < 9223372036854775808 := by
  have a := wrd_nonneg (natM n f) k h1 h2
  have b := cls_bound (natM n f) k h1 h2
  obtain ⟨j, rfl⟩ : ∃ j, k = j + 1 := ⟨k - 1, by omega⟩
  have hW : ∀ e, 1 ≤ e → e ≤ j + 1 → (j + 1) % e = 0 → 0 ≤ wrdN (trI (natM n f)) e := fun e e1 e2 _ => wrd_nonneg _ e e1 (by omega)
  have c := sum1_le (wrdN (trI (natM n f))) (j + 1) hW j (by omega)
  rw [sum1, if_pos (Nat.mod_self _)] at b
  have hs : trI (natM n f) (j + 1) < 9223372036854775808 := hs
  show 0 ≤ wrdN (trI (natM n f)) (j + 1) ∧ wrdN (trI (natM n f)) (j + 1) < 9223372036854775808
  omega

/-- What comes out, or why nothing does. -/
def gateR (n : Nat) (f : Nat → E6) (k : Int) (x : Int) : Int × Int :=
  sel (ilt 128 (Int.ofNat n)) (0, 2) (sel (mayN n f) (sel (ilt k 1) (0, 40) (sel (ilt 16 k) (0, 40) (sel (ile 9223372036854775808 (cl05 n f (toN k))) (0, 3) (x, 0)))) (0, 30))

def gateT (x : (n : Nat) → (Nat → E6) → Nat → Int) : List V → T (V × List Blk)
  | [v, u] => apL v fun n f => match gI u with
    | some k => out (.tup [iV (gateR n f k (x n f (toN k))).1, iV (gateR n f k (x n f (toN k))).2])
    | none => .fail
  | _ => .fail

theorem gateT_some {x : (n : Nat) → (Nat → E6) → Nat → Int} {vs : List V} {r : V × List Blk} (h : (gateT x vs).sem = some r) :
    ∃ n f k, ArgLE vs [edgesV n f, iV k] ∧ r = (.tup [iV (gateR n f k (x n f (toN k))).1, iV (gateR n f k (x n f (toN k))).2], []) := by
  unfold gateT at h
  split at h
  · obtain ⟨n, f, ha, hq⟩ := apL_some h
    split at hq
    · rename_i u _ k hk
      refine ⟨n, f, k, fun S w cs hv => ?_, sem_leaf hq⟩
      obtain ⟨c, l, rfl, q1, c', l', rfl, q2, q3⟩ := hv
      rw [gI_some hk] at q2
      exact ⟨c, _, rfl, ha S w c q1, c', _, rfl, q2, q3⟩
    · cases hq
  · cases h

theorem sat_le (x : Int) : ile 9223372036854775808 (satU x) = ile 9223372036854775808 x := by
  unfold satU
  split
  · rename_i h
    rw [le_true h]
    rfl
  · rfl

theorem walkR_gate (n : Nat) (f : Nat → E6) (k : Int) : walkR n f k = gateR n f k (cl05 n f (toN k)) := by
  unfold walkR gateR
  rcases many n with ⟨h1, _⟩ | ⟨h1, hn⟩
  · rw [h1]; rfl
  · rw [h1]
    cases mayN n f with
    | false => rfl
    | true =>
      cases h2 : ilt k 1 with
      | true => rfl
      | false =>
        cases h3 : ilt 16 k with
        | true => rfl
        | false =>
          have h2' : 1 ≤ k := by simpa [ilt] using h2
          have ht : 1 ≤ toN k := by unfold toN; omega
          rw [wV_sat n f hn _ ht, sat_le]
          cases h8 : ile 9223372036854775808 (cl05 n f (toN k)) with
          | true => rfl
          | false =>
            have : cl05 n f (toN k) < 9223372036854775808 := by simpa [ile] using h8
            rw [sat_small this]

theorem p16c : PureC Try.prog Gl 16 (gateT fun n f k => cl05 n f k) := by
  refine pureC_intro tabOK mixed Try.func16 (by kernel_rfl) (by kernel_rfl) fun vs v h' h => ?_
  obtain ⟨n, f, k, hA, hr⟩ := gateT_some h
  simp only [Prod.mk.injEq] at hr
  obtain ⟨rfl, rfl⟩ := hr
  have hx := cx_ok tbX_ok []
  refine ⟨_, cxOf Gl tbX [], _, hA, rfl, hx.1, hx.2, ?_, RowsLE.refl _⟩
  rw [← walkR_gate]
  exact walk16 _ n f k

end Go.Proofs.Ytdmjcpindopjdaa.Co
