/-
  A cycle's turned ones are cycles with one least list: the law CycleTurns as a function. No conditions.
-/
import Derived.Test.YtcaljjnadbpacaaDoorCyT
namespace Go.Proofs.YtcaljjnadbpacaaDoor.Ed
open Go.Sy

/-! ### The least turned list -/

def rotH (n : Nat) (h : Nat → Int) (p i : Nat) : Int := h ((p + i) % n)
/-- The list turned by p stands ahead of that turned by q. -/
def lexLt (n : Nat) (h : Nat → Int) (p q : Nat) : Prop := ∃ s, s < n ∧ (∀ t, t < s → rotH n h p t = rotH n h q t) ∧ rotH n h p s < rotH n h q s
def isMin (n : Nat) (h : Nat → Int) (p : Nat) : Prop := p < n ∧ ∀ q, q < n → ¬ lexLt n h q p

theorem lexLt_irrefl {n : Nat} {h : Nat → Int} {p : Nat} : ¬ lexLt n h p p := by
  rintro ⟨s, _, _, h3⟩
  omega

theorem lexLt_trans {n : Nat} {h : Nat → Int} {a b c : Nat} (h1 : lexLt n h a b) (h2 : lexLt n h b c) : lexLt n h a c := by
  obtain ⟨s, s1, s2, s3⟩ := h1
  obtain ⟨r, r1, r2, r3⟩ := h2
  rcases Nat.lt_trichotomy s r with e | e | e
  · exact ⟨s, s1, fun t ht => (s2 t ht).trans (r2 t (by omega)), by rw [← r2 s e]; exact s3⟩
  · subst e
    exact ⟨s, s1, fun t ht => (s2 t ht).trans (r2 t ht), by omega⟩
  · exact ⟨r, r1, fun t ht => (s2 t (by omega)).trans (r2 t ht), by rw [s2 r e]; exact r3⟩

theorem lexLt_total (n : Nat) (h : Nat → Int) (p q : Nat) : ∀ m, m ≤ n → (∃ s, s < m ∧ (∀ t, t < s → rotH n h p t = rotH n h q t) ∧ rotH n h p s ≠ rotH n h q s) ∨ ∀ t, t < m → rotH n h p t = rotH n h q t
  | 0, _ => .inr fun t ht => absurd ht (Nat.not_lt_zero t)
  | m + 1, hm => by
    rcases lexLt_total n h p q m (by omega) with ⟨s, h1, h2, h3⟩ | h1
    · exact .inl ⟨s, by omega, h2, h3⟩
    · by_cases e : rotH n h p m = rotH n h q m
      · refine .inr fun t ht => ?_
        by_cases et : t = m
        · rw [et]; exact e
        · exact h1 t (by omega)
      · exact .inl ⟨m, by omega, h1, e⟩

/-- Two least ones are the same list. -/
theorem isMin_eq {n : Nat} {h : Nat → Int} {p q : Nat} (hp : isMin n h p) (hq : isMin n h q) : ∀ t, t < n → rotH n h p t = rotH n h q t := by
  rcases lexLt_total n h p q n (Nat.le_refl n) with ⟨s, h1, h2, h3⟩ | h1
  · rcases Int.lt_or_gt_of_ne h3 with e | e
    · exact absurd ⟨s, h1, h2, e⟩ (hq.2 p hp.1)
    · exact absurd ⟨s, h1, fun t ht => (h2 t ht).symm, e⟩ (hp.2 q hq.1)
  · exact h1

theorem exists_min (n : Nat) (h : Nat → Int) : ∀ m, 0 < m → ∃ p, p < m ∧ ∀ q, q < m → ¬ lexLt n h q p
  | 0, hm => absurd hm (Nat.lt_irrefl 0)
  | 1, _ => ⟨0, by omega, fun q hq => by
      have : q = 0 := by omega
      subst this
      exact lexLt_irrefl⟩
  | m + 2, _ => by
    obtain ⟨p, h1, h2⟩ := exists_min n h (m + 1) (by omega)
    by_cases e : lexLt n h (m + 1) p
    · refine ⟨m + 1, by omega, fun q hq hl => ?_⟩
      by_cases eq : q = m + 1
      · subst eq; exact lexLt_irrefl hl
      · exact h2 q (by omega) (lexLt_trans hl e)
    · refine ⟨p, by omega, fun q hq hl => ?_⟩
      by_cases eq : q = m + 1
      · subst eq; exact e hl
      · exact h2 q (by omega) hl

theorem rot_mod (n : Nat) (h : Nat → Int) (a u : Nat) : rotH n h (a % n) u = h ((a + u) % n) := by
  unfold rotH
  rw [Nat.mod_add_mod]

/-- All beginnings along which one fails are no least ones. -/
theorem skip_not {n : Nat} {h : Nat → Int} {i j s : Nat} (hs : s < n) (h1 : ∀ t, t < s → h ((i + t) % n) = h ((j + t) % n)) (h2 : h ((j + s) % n) < h ((i + s) % n)) : ∀ p, i ≤ p → p ≤ i + s → ¬ isMin n h p := by
  intro p hp1 hp2 hm
  obtain ⟨hpn, hm⟩ := hm
  refine hm ((j + (p - i)) % n) (Nat.mod_lt _ (by omega)) ⟨s - (p - i), by omega, fun t ht => ?_, ?_⟩
  · rw [rot_mod]
    unfold rotH
    have := h1 (p - i + t) (by omega)
    rw [show i + (p - i + t) = p + t by omega, show j + (p - i + t) = j + (p - i) + t by omega] at this
    exact this.symm
  · rw [rot_mod]
    unfold rotH
    rw [show j + (p - i) + (s - (p - i)) = j + s by omega, show p + (s - (p - i)) = i + s by omega]
    exact h2

/-- Of two beginnings of one list, the first is a least one if there is a least one at it or behind the second. -/
theorem period_min {n : Nat} {h : Nat → Int} {lo hi : Nat} (hlt : lo < hi) (h1 : ∀ u, u < n → h ((hi + u) % n) = h ((lo + u) % n)) (hno : ∀ p, p < n → p < hi → p ≠ lo → ¬ isMin n h p) : ∀ m p, p ≤ m → isMin n h p → isMin n h lo := by
  intro m
  induction m with
  | zero =>
    intro p hp hm
    by_cases e : p = lo
    · rw [← e]; exact hm
    · exact absurd hm (hno p hm.1 (by omega) e)
  | succ m ih =>
    intro p hp hm
    by_cases e : p = lo
    · rw [← e]; exact hm
    · by_cases hph : p < hi
      · exact absurd hm (hno p hm.1 hph e)
      · have hpn := hm.1
        have hr : ∀ u, u < n → rotH n h p u = rotH n h (p - (hi - lo)) u := fun u _ => by
          unfold rotH
          have := h1 ((p - hi + u) % n) (Nat.mod_lt _ (by omega))
          rw [Nat.add_mod_mod, Nat.add_mod_mod, show hi + (p - hi + u) = p + u by omega, show lo + (p - hi + u) = p - (hi - lo) + u by omega] at this
          exact this
        refine ih (p - (hi - lo)) (by omega) ⟨by omega, fun q hq hl => ?_⟩
        obtain ⟨s, s1, s2, s3⟩ := hl
        exact hm.2 q hq ⟨s, s1, fun t ht => (s2 t ht).trans (hr t (by omega)).symm, by rw [hr s s1]; exact s3⟩

theorem leastG_min (n : Nat) (h : Nat → Int) (hn : 0 < n) : ∀ q i t s, i ≠ t → min i t < n → i ≤ 2 * n → t ≤ 2 * n + 1 → s ≤ n → (∀ u, u < s → h ((i + u) % n) = h ((t + u) % n)) →
    (∀ p, p < n → p < max i t → p ≠ min i t → ¬ isMin n h p) → 3 * n + 1 - (i + t + s) < q → isMin n h (leastG n h q i t s) := by
  intro q
  obtain ⟨p0, hp0⟩ : ∃ p, isMin n h p := by
    obtain ⟨p, h1, h2⟩ := exists_min n h n hn
    exact ⟨p, h1, h2⟩
  have hp0n := hp0.1
  induction q with
  | zero => intro i t s _ _ _ _ _ _ _ hq; exact absurd hq (Nat.not_lt_zero _)
  | succ q ih =>
    intro i t s hne hmin hi ht hs heq hno hq
    unfold leastG
    split
    · rename_i hx
      have hmin0 : ∀ lo, lo = min i t → isMin n h lo → isMin n h (min (min i t) (n - 1)) := fun lo hlo hm => by
        rw [show min (min i t) (n - 1) = lo by omega]; exact hm
      by_cases c : n ≤ i ∨ n ≤ t
      · refine hmin0 (min i t) rfl ?_
        by_cases e : p0 = min i t
        · rw [← e]; exact hp0
        · exact absurd hp0 (hno p0 hp0n (by omega) e)
      · refine hmin0 (min i t) rfl ?_
        have hsn : s = n := by omega
        subst hsn
        by_cases c2 : i < t
        · rw [show min i t = i by omega]
          exact period_min c2 (fun u hu => (heq u hu).symm) (fun p hp h1 h2 => hno p hp (by omega) (by omega)) p0 p0 (Nat.le_refl _) hp0
        · rw [show min i t = t by omega]
          exact period_min (show t < i by omega) (fun u hu => heq u hu) (fun p hp h1 h2 => hno p hp (by omega) (by omega)) p0 p0 (Nat.le_refl _) hp0
    · rename_i hx
      split
      · rename_i he
        refine ih i t (s + 1) hne hmin hi ht (by omega) (fun u hu => ?_) hno (by omega)
        by_cases eu : u = s
        · rw [eu]; exact he
        · exact heq u (by omega)
      · rename_i he
        split
        · rename_i hg
          have hsk := skip_not (by omega) heq hg
          split
          · rename_i e
            exact ih (i + s + 1) (t + 1) 0 (by omega) (by omega) (by omega) (by omega) (by omega) (fun u hu => absurd hu (Nat.not_lt_zero u)) (fun p hp h1 h2 => by
              by_cases hr : i ≤ p ∧ p ≤ i + s
              · exact hsk p hr.1 hr.2
              · exact hno p hp (by omega) (by omega)) (by omega)
          · rename_i e
            exact ih (i + s + 1) t 0 (by omega) (by omega) (by omega) (by omega) (by omega) (fun u hu => absurd hu (Nat.not_lt_zero u)) (fun p hp h1 h2 => by
              by_cases hr : i ≤ p ∧ p ≤ i + s
              · exact hsk p hr.1 hr.2
              · exact hno p hp (by omega) (by omega)) (by omega)
        · rename_i hg
          have hg2 : h ((i + s) % n) < h ((t + s) % n) := by omega
          have hsk := skip_not (by omega) (fun u hu => (heq u hu).symm) hg2
          split
          · rename_i e
            exact ih i (t + s + 2) 0 (by omega) (by omega) (by omega) (by omega) (by omega) (fun u hu => absurd hu (Nat.not_lt_zero u)) (fun p hp h1 h2 => by
              by_cases hr : t ≤ p ∧ p ≤ t + s
              · exact hsk p hr.1 hr.2
              · exact hno p hp (by omega) (by omega)) (by omega)
          · rename_i e
            exact ih i (t + s + 1) 0 (by omega) (by omega) (by omega) (by omega) (by omega) (fun u hu => absurd hu (Nat.not_lt_zero u)) (fun p hp h1 h2 => by
              by_cases hr : t ≤ p ∧ p ≤ t + s
              · exact hsk p hr.1 hr.2
              · exact hno p hp (by omega) (by omega)) (by omega)

/-- Where the program's walk ends, a least turned list begins. -/
theorem leastN_min (n : Nat) (h : Nat → Int) (hn : 0 < n) : isMin n h (leastN n h) :=
  leastG_min n h hn _ 0 1 0 (by omega) (by omega) (by omega) (by omega) (by omega) (fun u hu => absurd hu (Nat.not_lt_zero u)) (fun p _ h1 h2 => by omega) (by omega)

/-- A list's least turned list is that of all its turned ones. -/
theorem least_turned {n : Nat} {h g : Nat → Int} {k : Nat} (hn : 0 < n) (hg : ∀ i, i < n → g i = h ((k + i) % n)) : ∀ i, i < n → rotH n g (leastN n g) i = rotH n h (leastN n h) i := by
  have hr : ∀ p u, rotH n g p u = rotH n h ((k + p) % n) u := fun p u => by
    rw [rot_mod]
    unfold rotH
    rw [hg _ (Nat.mod_lt _ hn), Nat.add_mod_mod, Nat.add_assoc]
  have hm := leastN_min n g hn
  have hm2 : isMin n h ((k + leastN n g) % n) := by
    refine ⟨Nat.mod_lt _ hn, fun q hq hl => ?_⟩
    have e : (k + (q + (n - k % n)) % n) % n = q := by
      rw [Nat.add_mod_mod, ← Nat.mod_add_mod, show k % n + (q + (n - k % n)) = q + n by have := Nat.mod_lt k hn; omega, Nat.add_mod_right, Nat.mod_eq_of_lt hq]
    refine hm.2 ((q + (n - k % n)) % n) (Nat.mod_lt _ hn) ?_
    obtain ⟨s, s1, s2, s3⟩ := hl
    refine ⟨s, s1, fun t ht => ?_, ?_⟩
    · rw [hr, hr, e]; exact s2 t ht
    · rw [hr, hr, e]; exact s3
  intro i hi
  rw [hr]
  exact isMin_eq hm2 (leastN_min n h hn) i hi
/-! ### Parts, turned -/

theorem mod_add {K a b : Nat} (c : Nat) (h : a % K = b % K) : (a + c) % K = (b + c) % K := by rw [Nat.add_mod, h, ← Nat.add_mod]

theorem mod_cancel0 {K a b c : Nat} (hab : a ≤ b) (h : (a + c) % K = (b + c) % K) : a % K = b % K := by
  have h1 := Nat.sub_mod_eq_zero_of_mod_eq h.symm
  rw [show b + c - (a + c) = b - a by omega] at h1
  have h2 : (a + (b - a)) % K = a % K := by rw [Nat.add_mod, h1, Nat.add_zero, Nat.mod_mod]
  rw [show a + (b - a) = b by omega] at h2
  exact h2.symm

theorem mod_cancel {K a b c : Nat} (h : (a + c) % K = (b + c) % K) : a % K = b % K := by
  rcases Nat.le_total a b with h1 | h1
  · exact mod_cancel0 h1 h
  · exact (mod_cancel0 h1 h.symm).symm

theorem cntB_add (p : Nat → Bool) (a : Nat) : ∀ b, cntB p (a + b) = cntB p a + cntB (fun i => p (a + i)) b
  | 0 => rfl
  | b + 1 => by
    rw [show a + (b + 1) = a + b + 1 by omega, cntB, cntB, cntB_add p a b]
    cases p (a + b) <;> rfl

/-- How many up to a place, counted from k on. -/
theorem cntB_turn (p : Nat → Bool) {n k j : Nat} (hk : k < n) (hj : j ≤ n) : cntB p k + cntB (fun i => p ((k + i) % n)) j = if k + j < n then cntB p (k + j) else cntB p n + cntB p (k + j - n) := by
  split
  · rename_i h
    rw [cntB_add p k j, cntB_congr (q := fun i => p ((k + i) % n)) (p := fun i => p (k + i)) j fun i hi => by rw [Nat.mod_eq_of_lt (by omega)]]
  · rename_i h
    have e : j = (n - k) + (k + j - n) := by omega
    have h1 := cntB_add (fun i => p ((k + i) % n)) (n - k) (k + j - n)
    rw [← e] at h1
    rw [h1, cntB_congr (q := fun i => p ((k + i) % n)) (p := fun i => p (k + i)) (n - k) fun i hi => by rw [Nat.mod_eq_of_lt (by omega)],
      cntB_congr (q := fun i => p ((k + (n - k + i)) % n)) (p := p) (k + j - n) fun i hi => by rw [show k + (n - k + i) = i + n by omega, Nat.add_mod_right, Nat.mod_eq_of_lt (by omega)]]
    have h2 := cntB_add p k (n - k)
    rw [show k + (n - k) = n by omega] at h2
    omega

theorem cntB_turned (p : Nat → Bool) {n k : Nat} (hk : k < n) : cntB (fun i => p ((k + i) % n)) n = cntB p n := by
  have h := cntB_turn p hk (Nat.le_refl n)
  rw [if_neg (by omega), show k + n - n = k by omega] at h
  omega

theorem partF_mod (p : Nat → Bool) {n i : Nat} (hi : i < n) (hK : 0 < cntB p n) : partF p n i = Int.ofNat (cntB p i % cntB p n) := by
  unfold partF
  rw [decide_eq_true hi]
  have := cntB_mono p (show i ≤ n by omega)
  by_cases h : cntB p i = cntB p n
  · rw [decide_eq_true h, h, Nat.mod_self]
    rfl
  · rw [decide_eq_false h, Nat.mod_eq_of_lt (by omega)]
    rfl

/-- Two are in one part of the turned list just if they are in one part of the list. -/
theorem part_turned (p : Nat → Bool) {n k i j : Nat} (hk : k < n) (hK : 0 < cntB p n) (hi : i < n) (hj : j < n) :
    partF (fun i => p ((k + i) % n)) n i = partF (fun i => p ((k + i) % n)) n j ↔ partF p n ((k + i) % n) = partF p n ((k + j) % n) := by
  have hn : 0 < n := by omega
  have hT := cntB_turned p hk
  have key : ∀ i, i < n → (cntB p k + cntB (fun i => p ((k + i) % n)) i) % cntB p n = cntB p ((k + i) % n) % cntB p n := fun i hi => by
    rw [cntB_turn p hk (Nat.le_of_lt hi)]
    split
    · rename_i h
      rw [Nat.mod_eq_of_lt h]
    · rename_i h
      rw [Nat.add_mod_left, show (k + i) % n = k + i - n by rw [show k + i = k + i - n + n by omega, Nat.add_mod_right, Nat.mod_eq_of_lt (by omega)]; omega]
  rw [partF_mod _ hi (by rw [hT]; exact hK), partF_mod _ hj (by rw [hT]; exact hK), partF_mod p (Nat.mod_lt _ hn) hK, partF_mod p (Nat.mod_lt _ hn) hK, hT, ← key i hi, ← key j hj]
  constructor
  · intro h
    have h := Int.ofNat.inj h
    have := mod_add (cntB p k) h
    rw [Nat.add_comm _ (cntB p k), Nat.add_comm _ (cntB p k)] at this
    rw [this]
  · intro h
    have h := Int.ofNat.inj h
    rw [Nat.add_comm (cntB p k), Nat.add_comm (cntB p k)] at h
    rw [mod_cancel h]

/-! ### A list of edges, turned -/

/-- By how many places a list is turned, from 0 on. -/
def turnK (n : Nat) (b : Int) : Nat := toN (sel (ilt (itmod b (Int.ofNat n)) 0) (itmod b (Int.ofNat n) + Int.ofNat n) (itmod b (Int.ofNat n)))
def turnE (n : Nat) (f : Nat → E6) (b : Int) (i : Nat) : E6 := f ((turnK n b + i) % n)

theorem tmod_bounds (b : Int) {n : Nat} (h : 0 < n) : -(n : Int) < itmod b (Int.ofNat n) ∧ itmod b (Int.ofNat n) < (n : Int) := by
  unfold itmod
  have h1 : (0 : Int) < Int.ofNat n := by simp only [Int.ofNat_eq_natCast]; omega
  exact ⟨Int.lt_tmod_of_pos b h1, Int.tmod_lt_of_pos b h1⟩

theorem turnK_neg {b : Int} {n : Nat} (h : 0 < n) (hn : n ≤ 4611686018427387904) (hb : ilt (itmod b (Int.ofNat n)) 0 = true) : wr .i64 (iadd (itmod b (Int.ofNat n)) (Int.ofNat n)) = Int.ofNat (turnK n b) ∧ turnK n b < n := by
  obtain ⟨h1, h2⟩ := tmod_bounds b h
  have h3 : itmod b (Int.ofNat n) < 0 := by simpa [ilt] using hb
  have h4 : turnK n b = (itmod b (Int.ofNat n) + (n : Int)).toNat := by unfold turnK; rw [hb]; rfl
  rw [h4]
  generalize itmod b (Int.ofNat n) = r at h1 h2 h3 ⊢
  refine ⟨?_, by omega⟩
  unfold wr iadd IntKind.wrap
  simp [IntKind.bits, IntKind.signed]
  omega

theorem turnK_pos {b : Int} {n : Nat} (h : 0 < n) (hb : ilt (itmod b (Int.ofNat n)) 0 = false) : itmod b (Int.ofNat n) = Int.ofNat (turnK n b) ∧ turnK n b < n := by
  obtain ⟨h1, h2⟩ := tmod_bounds b h
  have h3 : ¬ itmod b (Int.ofNat n) < 0 := by simpa [ilt] using hb
  have h4 : turnK n b = (itmod b (Int.ofNat n)).toNat := by unfold turnK; rw [hb]; rfl
  rw [h4]
  generalize itmod b (Int.ofNat n) = r at h1 h2 h3 ⊢
  refine ⟨?_, by omega⟩
  simp only [Int.ofNat_eq_natCast]
  omega

theorem turnK_lt (b : Int) {n : Nat} (h : 0 < n) (hn : n ≤ 4611686018427387904) : turnK n b < n := by
  cases hb : ilt (itmod b (Int.ofNat n)) 0 with
  | true => exact (turnK_neg h hn hb).2
  | false => exact (turnK_pos h hb).2

theorem turnK_nat {n k : Nat} (h : k < n) : turnK n (Int.ofNat k) = k := by
  unfold turnK
  rw [mod_nat, Nat.mod_eq_of_lt h]
  have : ilt (Int.ofNat k) 0 = false := by simp [ilt]
  rw [this]
  rfl

def lp69 (n : Nat) (f : Nat → E6) (b : Int) : Lp := ⟨[true, false, false, false, false, true, true, true, true, false, false, false, false, false, false, false, false, false, false, false, false, false, false, false, false, false, false, false, false, false, false, false, false, false, false, false, false, false, false], 2, [false, false, false, false, false, true, false, false, false, false, false, false, false, false, false, false, false, false, false, false, false, false, false, false, false, false, false, false, false, false, false, false, false, false, false, false, false, false, false], 2, n + 1⟩
def st69 (n : Nat) (f : Nat → E6) (b : Int) (k : Int) (i : Nat) (x : Nat → V) (j : Nat → V) : St := ⟨[.sl 6 n (fun i => (eV (f i))), j 1, j 2, j 3, j 4, .ref 1, iV (Int.ofNat n), iV k, iV (Int.ofNat i), j 9, j 10, j 11, j 12, j 13, j 14, j 15, j 16, j 17, j 18, j 19, j 20, j 21, j 22, j 23, j 24, j 25, j 26, j 27, j 28, j 29, j 30, j 31, j 32, j 33, j 34, j 35, j 36, j 37, j 38], [.row 23 6 0 (fun _ => .und), .row 23 6 i x]⟩
def en69e (n : Nat) (f : Nat → E6) (b : Int) (k : Int) (i : Nat) (x : Nat → V) : Ex × St := (.ex 0, ⟨[.und, .und, .und, .und, .und, .ref 1, .und, .und, .und, .und, .und, .und, .und, .und, .und, .und, .und, .und, .und, .und, .und, .und, .und, .und, .und, .und, .und, .und, .und, .und, .und, .und, .und, .und, .und, .und, .und, .und, .und], [.row 23 6 0 (fun _ => .und), .row 23 6 i x]⟩)
noncomputable def body69 (L : Nat → (St → T (Ex × St)) → St → T (Ex × St)) : St → T (Ex × St) := fun st => evalC tab ⟨callT tb0, L, Gl⟩ (loopBody Tryd.f69 0) 0 st
theorem rc69e_p (L : Nat → (St → T (Ex × St)) → St → T (Ex × St)) (n : Nat) (f : Nat → E6) (b : Int) (k : Int) (i : Nat) (x : Nat → V)  (j : Nat → V) : ((body69 L (st69 n f b k i x j)).bind fun r => T.leaf (cutR (lp69 n f b) r)).path [false] = some ([(ilt (Int.ofNat i) (Int.ofNat n))], ((.ex 0), ⟨[.und, .und, .und, .und, .und, (.ref 1), .und, .und, .und, .und, .und, .und, .und, .und, .und, .und, .und, .und, .und, .und, .und, .und, .und, .und, .und, .und, .und, .und, .und, .und, .und, .und, .und, .und, .und, .und, .und, .und, .und], [(.row 23 6 0 (fun _ => .und)), (.row 23 6 i x)]⟩)) := by kernel_rfl
theorem rc69e (L : Nat → (St → T (Ex × St)) → St → T (Ex × St)) (n : Nat) (f : Nat → E6) (b : Int) (k : Int) (i : Nat) (x : Nat → V)  (j : Nat → V) (h0 : ilt (Int.ofNat i) (Int.ofNat n) = false) : ((body69 L (st69 n f b k i x j)).bind fun r => T.leaf (cutR (lp69 n f b) r)).sem = some ((.ex 0), ⟨[.und, .und, .und, .und, .und, (.ref 1), .und, .und, .und, .und, .und, .und, .und, .und, .und, .und, .und, .und, .und, .und, .und, .und, .und, .und, .und, .und, .und, .und, .und, .und, .und, .und, .und, .und, .und, .und, .und, .und, .und], [(.row 23 6 0 (fun _ => .und)), (.row 23 6 i x)]⟩) := by
  exact sem_of_path (rc69e_p L n f b k i x j) (by simp only [h0] <;> rfl)
theorem rc69n_p (L : Nat → (St → T (Ex × St)) → St → T (Ex × St)) (n : Nat) (f : Nat → E6) (b : Int) (k : Int) (i : Nat) (x : Nat → V)  (j : Nat → V) : ((body69 L (st69 n f b k i x j)).bind fun r => T.leaf (cutR (lp69 n f b) r)).path [true, false, true, true] = some ([(ilt (Int.ofNat i) (Int.ofNat n)), (ieq (Int.ofNat n) 0), (band (ile 0 (itmod (wr IntKind.i64 (iadd k (Int.ofNat i))) (Int.ofNat n))) (ilt (itmod (wr IntKind.i64 (iadd k (Int.ofNat i))) (Int.ofNat n)) (Int.ofNat n))), (apOK i 1 40)], (.nm, ⟨[(.sl 6 n (fun i => (eV (f i)))), .und, .und, .und, .und, (.ref 1), (iV (Int.ofNat n)), (iV k), (iV (wr IntKind.i64 (iadd (Int.ofNat i) 1))), .und, .und, .und, .und, .und, .und, .und, .und, .und, .und, .und, .und, .und, .und, .und, .und, .und, .und, .und, .und, .und, .und, .und, .und, .und, .und, .und, .und, .und, .und], [(.row 23 6 0 (fun _ => .und)), (.row 23 6 (nadd i 1) (pushGet i x (eV (f (toN (itmod (wr IntKind.i64 (iadd k (Int.ofNat i))) (Int.ofNat n)))))))]⟩)) := by kernel_rfl
theorem rc69n (L : Nat → (St → T (Ex × St)) → St → T (Ex × St)) (n : Nat) (f : Nat → E6) (b : Int) (k : Int) (i : Nat) (x : Nat → V)  (j : Nat → V) (h0 : ilt (Int.ofNat i) (Int.ofNat n) = true) (h1 : ieq (Int.ofNat n) 0 = false) (h2 : band (ile 0 (itmod (wr IntKind.i64 (iadd k (Int.ofNat i))) (Int.ofNat n))) (ilt (itmod (wr IntKind.i64 (iadd k (Int.ofNat i))) (Int.ofNat n)) (Int.ofNat n)) = true) (h3 : apOK i 1 40 = true) : ((body69 L (st69 n f b k i x j)).bind fun r => T.leaf (cutR (lp69 n f b) r)).sem = some (.nm, ⟨[(.sl 6 n (fun i => (eV (f i)))), .und, .und, .und, .und, (.ref 1), (iV (Int.ofNat n)), (iV k), (iV (wr IntKind.i64 (iadd (Int.ofNat i) 1))), .und, .und, .und, .und, .und, .und, .und, .und, .und, .und, .und, .und, .und, .und, .und, .und, .und, .und, .und, .und, .und, .und, .und, .und, .und, .und, .und, .und, .und, .und], [(.row 23 6 0 (fun _ => .und)), (.row 23 6 (nadd i 1) (pushGet i x (eV (f (toN (itmod (wr IntKind.i64 (iadd k (Int.ofNat i))) (Int.ofNat n)))))))]⟩) := by
  exact sem_of_path (rc69n_p L n f b k i x j) (by simp only [h2] <;> simp only [h0, h1, h3] <;> rfl)

theorem wc69z_p (L : Nat → (St → T (Ex × St)) → St → T (Ex × St)) (n : Nat) (f : Nat → E6) (b : Int) : (finF (evalF tab ⟨callT tb0, L, Gl⟩ Tryd.f69 [edgesV n f, iV b] [])).path [true] = some ([(ieq (Int.ofNat n) 0)], ((.ref 0), [(.row 23 6 0 (fun _ => .und))])) := by kernel_rfl
theorem wc69z (L : Nat → (St → T (Ex × St)) → St → T (Ex × St)) (n : Nat) (f : Nat → E6) (b : Int) (h0 : ieq (Int.ofNat n) 0 = true) : (finF (evalF tab ⟨callT tb0, L, Gl⟩ Tryd.f69 [edgesV n f, iV b] [])).sem = some ((.ref 0), [(.row 23 6 0 (fun _ => .und))]) := by
  exact sem_of_path (wc69z_p L n f b) (by simp only [h0] <;> rfl)

def ent69a (n : Nat) (f : Nat → E6) (b : Int)  : St := ⟨[(.sl 6 n (fun i => (eV (f i)))), (iV b), undefV, undefV, (.ref 0), (.ref 1), (iV (Int.ofNat n)), (iV (wr IntKind.i64 (iadd (itmod b (Int.ofNat n)) (Int.ofNat n)))), (iV 0), (.sl 6 n (fun i => (eV (f i)))), (iV (Int.ofNat n)), (iV (Int.ofNat n)), (bV (ieq (Int.ofNat n) 0)), undefV, (iV b), (iV (Int.ofNat n)), (iV (itmod b (Int.ofNat n))), (iV (itmod b (Int.ofNat n))), (bV (ilt (itmod b (Int.ofNat n)) 0)), (iV (itmod b (Int.ofNat n))), (iV (Int.ofNat n)), (iV (wr IntKind.i64 (iadd (itmod b (Int.ofNat n)) (Int.ofNat n)))), undefV, undefV, undefV, undefV, undefV, undefV, undefV, undefV, undefV, undefV, undefV, undefV, undefV, undefV, undefV, undefV, undefV], [(.row 23 6 0 (fun _ => .und)), (.row 23 6 0 (fun _ => .und))]⟩

def ent69b (n : Nat) (f : Nat → E6) (b : Int)  : St := ⟨[(.sl 6 n (fun i => (eV (f i)))), (iV b), undefV, undefV, (.ref 0), (.ref 1), (iV (Int.ofNat n)), (iV (itmod b (Int.ofNat n))), (iV 0), (.sl 6 n (fun i => (eV (f i)))), (iV (Int.ofNat n)), (iV (Int.ofNat n)), (bV (ieq (Int.ofNat n) 0)), undefV, (iV b), (iV (Int.ofNat n)), (iV (itmod b (Int.ofNat n))), (iV (itmod b (Int.ofNat n))), (bV (ilt (itmod b (Int.ofNat n)) 0)), undefV, undefV, undefV, undefV, undefV, undefV, undefV, undefV, undefV, undefV, undefV, undefV, undefV, undefV, undefV, undefV, undefV, undefV, undefV, undefV], [(.row 23 6 0 (fun _ => .und)), (.row 23 6 0 (fun _ => .und))]⟩

theorem wc69a_p (L : Nat → (St → T (Ex × St)) → St → T (Ex × St)) (p0 : (St → T (Ex × St)) → St → Bool) (n : Nat) (f : Nat → E6) (b : Int) (k : Int) (x : Nat → V) : (finF (evalF tab ⟨callT tb0, (onP 0 p0 (en69e n f b k n x) L), Gl⟩ Tryd.f69 [edgesV n f, iV b] [])).path [false, false, true, true] = some ([(ieq (Int.ofNat n) 0), (ieq (Int.ofNat n) 0), (ilt (itmod b (Int.ofNat n)) 0), (p0 (body69 (onP 0 p0 (en69e n f b k n x) L)) (ent69a n f b))], ((.ref 0), [(.row 23 6 n x)])) := by kernel_rfl
theorem wc69a (L : Nat → (St → T (Ex × St)) → St → T (Ex × St)) (p0 : (St → T (Ex × St)) → St → Bool) (n : Nat) (f : Nat → E6) (b : Int) (k : Int) (x : Nat → V) (h0 : ieq (Int.ofNat n) 0 = false) (h1 : ilt (itmod b (Int.ofNat n)) 0 = true) (hp0 : p0 (body69 (onP 0 p0 (en69e n f b k n x) L)) (ent69a n f b) = true) : (finF (evalF tab ⟨callT tb0, (onP 0 p0 (en69e n f b k n x) L), Gl⟩ Tryd.f69 [edgesV n f, iV b] [])).sem = some ((.ref 0), [(.row 23 6 n x)]) := by
  exact sem_of_path (wc69a_p L p0 n f b k x) (by simp only [hp0] <;> simp only [h0, h1] <;> rfl)

theorem wc69b_p (L : Nat → (St → T (Ex × St)) → St → T (Ex × St)) (p0 : (St → T (Ex × St)) → St → Bool) (n : Nat) (f : Nat → E6) (b : Int) (k : Int) (x : Nat → V) : (finF (evalF tab ⟨callT tb0, (onP 0 p0 (en69e n f b k n x) L), Gl⟩ Tryd.f69 [edgesV n f, iV b] [])).path [false, false, false, true] = some ([(ieq (Int.ofNat n) 0), (ieq (Int.ofNat n) 0), (ilt (itmod b (Int.ofNat n)) 0), (p0 (body69 (onP 0 p0 (en69e n f b k n x) L)) (ent69b n f b))], ((.ref 0), [(.row 23 6 n x)])) := by kernel_rfl
theorem wc69b (L : Nat → (St → T (Ex × St)) → St → T (Ex × St)) (p0 : (St → T (Ex × St)) → St → Bool) (n : Nat) (f : Nat → E6) (b : Int) (k : Int) (x : Nat → V) (h0 : ieq (Int.ofNat n) 0 = false) (h1 : ilt (itmod b (Int.ofNat n)) 0 = false) (hp0 : p0 (body69 (onP 0 p0 (en69e n f b k n x) L)) (ent69b n f b) = true) : (finF (evalF tab ⟨callT tb0, (onP 0 p0 (en69e n f b k n x) L), Gl⟩ Tryd.f69 [edgesV n f, iV b] [])).sem = some ((.ref 0), [(.row 23 6 n x)]) := by
  exact sem_of_path (wc69b_p L p0 n f b k x) (by simp only [hp0] <;> simp only [h0, h1] <;> rfl)

theorem run69 (L : Nat → (St → T (Ex × St)) → St → T (Ex × St)) (n : Nat) (f : Nat → E6) (b : Int) (K : Nat) (hK : K < n) (h8 : n * 40 ≤ 140737488355328) : ∀ (d i : Nat) (j : Nat → V) (q : Nat), n = i + d → d < q →
    (iterT (body69 L) (lp69 n f b) q (st69 n f b (Int.ofNat K) i (pushN (fun i => eV (f ((K + i) % n))) i) j)).sem = some (en69e n f b (Int.ofNat K) n (pushN (fun i => eV (f ((K + i) % n))) n))
  | 0, i, j, q + 1, h, _ => by
    have : n = i := by omega
    subst this
    exact iter_round (rc69e L n f b (Int.ofNat K) n (pushN (fun i => eV (f ((K + i) % n))) n) j (ofNat_ge (Nat.le_refl _)))
  | d + 1, i, j, q + 1, h, h2 => by
    have hl : i < n := by omega
    have h9 : (i + 1) * 40 ≤ 140737488355328 := Nat.le_trans (Nat.mul_le_mul_right 40 hl) h8
    have ha : apOK i 1 40 = true := decide_eq_true h9
    have e1 : itmod (wr IntKind.i64 (iadd (Int.ofNat K) (Int.ofNat i))) (Int.ofNat n) = Int.ofNat ((K + i) % n) := by rw [wr_add (by omega), mod_nat]
    have hb : band (ile 0 (itmod (wr IntKind.i64 (iadd (Int.ofNat K) (Int.ofNat i))) (Int.ofNat n))) (ilt (itmod (wr IntKind.i64 (iadd (Int.ofNat K) (Int.ofNat i))) (Int.ofNat n)) (Int.ofNat n)) = true := by
      rw [e1]; exact ofNat_in (Nat.mod_lt _ (by omega))
    rw [iter_round (rc69n L n f b (Int.ofNat K) i (pushN (fun i => eV (f ((K + i) % n))) i) j (ofNat_lt hl) (ne_0 hl) hb ha), goOn_nm, succ_wr hl (by omega), e1, show toN (Int.ofNat ((K + i) % n)) = (K + i) % n from rfl]
    exact run69 L n f b K hK h8 d (i + 1) (fun _ => .und) q (by omega) (by omega)

def turnedT : List V → T (V × List Blk)
  | [v, .val (.int .i64 b)] => apL v fun n f => .br (fitN n) (.leaf (.ref 0, [.row 23 6 n fun i => eV (turnE n f b i)])) .fail
  | _ => .fail

theorem ent69a_eq (n : Nat) (f : Nat → E6) (b : Int) (g : Nat → V) : ent69a n f b = st69 n f b (wr IntKind.i64 (iadd (itmod b (Int.ofNat n)) (Int.ofNat n))) 0 (pushN g 0) (fun i => nth (ent69a n f b).t i) := by kernel_rfl
theorem ent69b_eq (n : Nat) (f : Nat → E6) (b : Int) (g : Nat → V) : ent69b n f b = st69 n f b (itmod b (Int.ofNat n)) 0 (pushN g 0) (fun i => nth (ent69b n f b).t i) := by kernel_rfl

theorem p69 : PureC Tryd.prog Gl 69 turnedT := by
  refine pureC_intro tabOK mixed Tryd.func69 (by kernel_rfl) (by kernel_rfl) fun vs v h' h => ?_
  unfold turnedT at h
  split at h
  · rename_i u b
    obtain ⟨n, f, ha, h1⟩ := apL_some h
    obtain ⟨hn, hq⟩ := sem_br_fail h1
    have := sem_leaf hq
    simp only [Prod.mk.injEq] at this
    obtain ⟨rfl, rfl⟩ := this
    have h8 : n * 40 ≤ 140737488355328 := of_decide_eq_true hn
    have hA : ArgLE [u, .val (.int .i64 b)] [edgesV n f, iV b] := fun S w cs hv => by
      obtain ⟨c, l, rfl, q1, q2⟩ := hv
      exact ⟨c, l, rfl, ha S w c q1, q2⟩
    have hx := cx_ok tb0_ok [(0, lp69 n f b)]
    have hL := loopsBy_le [(0, lp69 n f b)]
    cases n with
    | zero => exact ⟨_, cxOf Gl tb0 [(0, lp69 0 f b)], _, hA, rfl, hx.1, hx.2, wc69z _ 0 f b rfl, RowsLE.one fun j hj => absurd hj (Nat.not_lt_zero _)⟩
    | succ m =>
      have hm : m + 1 ≤ 4611686018427387904 := by omega
      have h0 : 0 < m + 1 := Nat.succ_pos m
      have hz : ieq (Int.ofNat (m + 1)) 0 = false := ne_0 h0
      have fin : ∀ K, K = turnK (m + 1) b → RowsLE [Blk.row 23 6 (m + 1) (pushN (fun i => eV (f ((K + i) % (m + 1)))) (m + 1))] [Blk.row 23 6 (m + 1) fun i => eV (turnE (m + 1) f b i)] := fun K hK => RowsLE.one fun j hj => by
        rw [pushN_eq _ _ j hj, hK]
        rfl
      cases hb : ilt (itmod b (Int.ofNat (m + 1))) 0 with
      | true =>
        obtain ⟨e1, e2⟩ := turnK_neg h0 hm hb
        have hr : ∀ L, (loopsBy [(0, lp69 (m + 1) f b)] 0 (body69 L) (ent69a (m + 1) f b)).sem = some (en69e (m + 1) f b (Int.ofNat (turnK (m + 1) b)) (m + 1) (pushN (fun i => eV (f ((turnK (m + 1) b + i) % (m + 1)))) (m + 1))) := fun L => by
          show (iterT (body69 L) (lp69 (m + 1) f b) (m + 2) (ent69a (m + 1) f b)).sem = _
          rw [ent69a_eq (m + 1) f b (fun i => eV (f ((turnK (m + 1) b + i) % (m + 1)))), e1]
          exact run69 L (m + 1) f b _ e2 h8 (m + 1) 0 _ (m + 2) (by omega) (by omega)
        exact ⟨_, cxOf Gl tb0 [(0, lp69 (m + 1) f b)], _, hA, rfl, hx.1, hx.2, told_le (onP_le hL hL) _ (wc69a _ _ (m + 1) f b _ _ hz hb (isP_true (hr _))), fin _ rfl⟩
      | false =>
        obtain ⟨e1, e2⟩ := turnK_pos h0 hb
        have hr : ∀ L, (loopsBy [(0, lp69 (m + 1) f b)] 0 (body69 L) (ent69b (m + 1) f b)).sem = some (en69e (m + 1) f b (Int.ofNat (turnK (m + 1) b)) (m + 1) (pushN (fun i => eV (f ((turnK (m + 1) b + i) % (m + 1)))) (m + 1))) := fun L => by
          show (iterT (body69 L) (lp69 (m + 1) f b) (m + 2) (ent69b (m + 1) f b)).sem = _
          rw [ent69b_eq (m + 1) f b (fun i => eV (f ((turnK (m + 1) b + i) % (m + 1)))), e1]
          exact run69 L (m + 1) f b _ e2 h8 (m + 1) 0 _ (m + 2) (by omega) (by omega)
        exact ⟨_, cxOf Gl tb0 [(0, lp69 (m + 1) f b)], _, hA, rfl, hx.1, hx.2, told_le (onP_le hL hL) _ (wc69b _ _ (m + 1) f b _ _ hz hb (isP_true (hr _))), fin _ rfl⟩
  · cases h

/-! ### A cycle's turned ones are cycles -/

theorem firstQ_none {q : Nat → Bool} : ∀ {d i : Nat}, firstQ q d i = none ↔ ∀ k, i ≤ k → k < i + d → q k = false
  | 0, i => ⟨fun _ k h1 h2 => by omega, fun _ => rfl⟩
  | d + 1, i => by
    cases hq : q i with
    | true =>
      rw [firstQ_t hq]
      refine ⟨fun h => (by cases h), fun h => ?_⟩
      have := h i (Nat.le_refl i) (by omega)
      rw [hq] at this
      cases this
    | false =>
      rw [firstQ_f hq, firstQ_none]
      refine ⟨fun h k h1 h2 => ?_, fun h k h1 h2 => h k (by omega) (by omega)⟩
      by_cases e : k = i
      · rw [e]; exact hq
      · exact h k (by omega) (by omega)

structure IsCycle (a : Int) (n : Nat) (f : Nat → E6) : Prop where
  arch : ieq a 1 = true ∨ ieq a 2 = true
  lo : 2 ≤ n
  hi : n ≤ 16
  legal : ∀ i, i < n → badL a f i = false
  meets : ∀ i, i < n → badM n f i = false
  outer : 2 ≤ cntB (fun k => outB (f k)) n
  moves : 2 ≤ cntB (fun k => movB (f k)) n
  writes : ∀ i, i < n → tooMany n (partF (fun k => movB (f k)) n) (fun i => isW (f i)) 2 i = false
  crowd : ∀ i, i < n → tooMany n (partF (fun k => outB (f k)) n) (fun _ => true) 12 i = false

theorem crR_none {n : Nat} {l : Nat → Int} {c : Nat → Bool} {q : Int} (h : ∀ i, i < n → tooMany n l c q i = false) : crR n l c q = (0, false) := by
  unfold crR
  rw [firstQ_none.2 fun k _ h2 => h k (by omega)]

theorem crR_false {n : Nat} {l : Nat → Int} {c : Nat → Bool} {q : Int} (h : (crR n l c q).2 = false) : ∀ i, i < n → tooMany n l c q i = false := by
  unfold crR at h
  cases hc : firstQ (tooMany n l c q) n 0 with
  | some t => rw [hc] at h; cases h
  | none => exact fun i hi => firstQ_none.1 hc i (Nat.zero_le i) (by omega)

theorem IsCycle.ok {a : Int} {n : Nat} {f : Nat → E6} (h : IsCycle a n f) : chkR a n f = (0, 0) := by
  have e1 : edgR a n f = (0, 0) := by
    unfold edgR
    rw [firstQ_none.2 fun k _ h2 => h.legal k (by omega)]
    show (match firstQ (badM n f) n 0 with | some t => ((41 : Int), Int.ofNat t) | none => (0, 0)) = (0, 0)
    rw [firstQ_none.2 fun k _ h2 => h.meets k (by omega)]
  have c1 : ilt (Int.ofNat n) 2 = false := by rw [show (2 : Int) = Int.ofNat 2 from rfl, ilt_nat, decide_eq_false (by have := h.lo; omega)]
  have c2 : ilt 16 (Int.ofNat n) = false := by rw [show (16 : Int) = Int.ofNat 16 from rfl, ilt_nat, decide_eq_false (by have := h.hi; omega)]
  have c3 : ilt (cntO n f) 2 = false := by unfold cntO; rw [show (2 : Int) = Int.ofNat 2 from rfl, ilt_nat, decide_eq_false (by have := h.outer; omega)]
  have c4 : ilt (cntM n f) 2 = false := by unfold cntM; rw [show (2 : Int) = Int.ofNat 2 from rfl, ilt_nat, decide_eq_false (by have := h.moves; omega)]
  rw [chkR_eq h.arch]
  unfold chkK
  rw [c1, c2, e1]
  show chkS n f = (0, 0)
  unfold chkS
  rw [c3, c4]
  show chkU n f = (0, 0)
  unfold chkU
  rw [crR_none h.writes, crR_none h.crowd]

theorem isCycle_of {a : Int} {n : Nat} {f : Nat → E6} (h : ieq (chkE a n f) 0 = true) : IsCycle a n f := by
  have h := ieq_eq h
  unfold chkE at h
  have ha : ieq a 1 = true ∨ ieq a 2 = true := by
    cases ca : ieq a 1 with
    | true => exact .inl rfl
    | false =>
      cases cb : ieq a 2 with
      | true => exact .inr rfl
      | false =>
        unfold chkR at h
        rw [ca, cb] at h
        cases h
  rw [chkR_eq ha] at h
  unfold chkK at h
  cases c1 : ilt (Int.ofNat n) 2 with
  | true => rw [c1] at h; cases h
  | false =>
    cases c2 : ilt 16 (Int.ofNat n) with
    | true => rw [c1, c2] at h; cases h
    | false =>
      rw [c1, c2] at h
      have h : (match edgR a n f, ieq (edgR a n f).1 0 with | r, false => r | _, true => chkS n f).1 = 0 := h
      cases c3 : ieq (edgR a n f).1 0 with
      | false =>
        rw [c3] at h
        have h : (edgR a n f).1 = 0 := h
        rw [h] at c3
        cases c3
      | true =>
        rw [c3] at h
        have h : (chkS n f).1 = 0 := h
        have c3 := ieq_eq c3
        unfold chkS at h
        cases c4 : ilt (cntO n f) 2 with
        | true => rw [c4] at h; cases h
        | false =>
          cases c5 : ilt (cntM n f) 2 with
          | true => rw [c4, c5] at h; cases h
          | false =>
            rw [c4, c5] at h
            have h : (chkU n f).1 = 0 := h
            unfold chkU at h
            cases c6 : (crR n (partF (fun k => movB (f k)) n) (fun i => isW (f i)) 2).2 with
            | true =>
              rw [show crR n (partF (fun k => movB (f k)) n) (fun i => isW (f i)) 2 = ((crR n (partF (fun k => movB (f k)) n) (fun i => isW (f i)) 2).1, true) from Prod.ext rfl c6] at h
              cases h
            | false =>
              rw [show crR n (partF (fun k => movB (f k)) n) (fun i => isW (f i)) 2 = ((crR n (partF (fun k => movB (f k)) n) (fun i => isW (f i)) 2).1, false) from Prod.ext rfl c6] at h
              cases c7 : (crR n (partF (fun k => outB (f k)) n) (fun _ => true) 12).2 with
              | true =>
                rw [show crR n (partF (fun k => outB (f k)) n) (fun _ => true) 12 = ((crR n (partF (fun k => outB (f k)) n) (fun _ => true) 12).1, true) from Prod.ext rfl c7] at h
                cases h
              | false =>
                have e1 : firstQ (badL a f) n 0 = none ∧ firstQ (badM n f) n 0 = none := by
                  unfold edgR at c3
                  cases d1 : firstQ (badL a f) n 0 with
                  | some t =>
                    rw [d1] at c3
                    cases d2 : ieq (legF a (f t)) 0 with
                    | true => simp only [d2] at c3; cases c3
                    | false => simp only [d2] at c3; cases c3
                  | none =>
                    rw [d1] at c3
                    cases d2 : firstQ (badM n f) n 0 with
                    | some t => rw [d2] at c3; cases c3
                    | none => exact ⟨rfl, rfl⟩
                rw [show (2 : Int) = Int.ofNat 2 from rfl, ilt_nat] at c1
                rw [show (16 : Int) = Int.ofNat 16 from rfl, ilt_nat] at c2
                unfold cntO at c4
                rw [show (2 : Int) = Int.ofNat 2 from rfl, ilt_nat] at c4
                unfold cntM at c5
                rw [show (2 : Int) = Int.ofNat 2 from rfl, ilt_nat] at c5
                have c1 := of_decide_eq_false c1
                have c2 := of_decide_eq_false c2
                have c4 := of_decide_eq_false c4
                have c5 := of_decide_eq_false c5
                exact ⟨ha, by omega, by omega, fun i hi => firstQ_none.1 e1.1 i (Nat.zero_le i) (by omega), fun i hi => firstQ_none.1 e1.2 i (Nat.zero_le i) (by omega), by omega, by omega, crR_false c6, crR_false c7⟩

theorem tooMany_turned (p c : Nat → Bool) {n k : Nat} (hk : k < n) (hK : 0 < cntB p n) (q : Int) {i : Nat} (hi : i < n) :
    tooMany n (partF (fun i => p ((k + i) % n)) n) (fun i => c ((k + i) % n)) q i = tooMany n (partF p n) c q ((k + i) % n) := by
  unfold tooMany cntK
  rw [cntB_congr (q := cntP (partF (fun i => p ((k + i) % n)) n) (fun i => c ((k + i) % n)) (partF (fun i => p ((k + i) % n)) n i)) (p := fun j => cntP (partF p n) c (partF p n ((k + i) % n)) ((k + j) % n)) n fun j hj => by
    unfold cntP
    have h1 := part_turned p hk hK hj hi
    by_cases e : partF (fun i => p ((k + i) % n)) n j = partF (fun i => p ((k + i) % n)) n i
    · rw [e, h1.1 e, ieq_rfl, ieq_rfl]
    · rw [show ieq (partF (fun i => p ((k + i) % n)) n j) (partF (fun i => p ((k + i) % n)) n i) = false by simp [ieq, e], show ieq (partF p n ((k + j) % n)) (partF p n ((k + i) % n)) = false by
        have : ¬ partF p n ((k + j) % n) = partF p n ((k + i) % n) := fun h => e (h1.2 h)
        simp [ieq, this]]]
  rw [cntB_turned (cntP (partF p n) c (partF p n ((k + i) % n))) hk]

theorem IsCycle.turned {a : Int} {n : Nat} {f : Nat → E6} (h : IsCycle a n f) {k : Nat} (hk : k < n) : IsCycle a n fun i => f ((k + i) % n) := by
  have hn : 0 < n := by omega
  have ho := h.outer
  have hm := h.moves
  refine ⟨h.arch, h.lo, h.hi, fun i hi => h.legal _ (Nat.mod_lt _ hn), fun i hi => ?_, ?_, ?_, fun i hi => ?_, fun i hi => ?_⟩
  · have := h.meets ((k + i) % n) (Nat.mod_lt _ hn)
    unfold badM at this ⊢
    rw [Nat.mod_add_mod] at this
    show bnot (ieq (f ((k + i) % n)).dst (f ((k + (i + 1) % n) % n)).src) = false
    rw [Nat.add_mod_mod, ← Nat.add_assoc]
    exact this
  · show 2 ≤ cntB (fun i => (fun k => outB (f k)) ((k + i) % n)) n
    rw [cntB_turned (fun k => outB (f k)) hk]
    exact ho
  · show 2 ≤ cntB (fun i => (fun k => movB (f k)) ((k + i) % n)) n
    rw [cntB_turned (fun k => movB (f k)) hk]
    exact hm
  · show tooMany n (partF (fun i => (fun k => movB (f k)) ((k + i) % n)) n) (fun i => (fun k => isW (f k)) ((k + i) % n)) 2 i = false
    rw [tooMany_turned (fun k => movB (f k)) (fun k => isW (f k)) hk (by omega) 2 hi]
    exact h.writes _ (Nat.mod_lt _ hn)
  · show tooMany n (partF (fun i => (fun k => outB (f k)) ((k + i) % n)) n) (fun i => (fun _ => true) ((k + i) % n)) 12 i = false
    rw [tooMany_turned (fun k => outB (f k)) (fun _ => true) hk (by omega) 12 hi]
    exact h.crowd _ (Nat.mod_lt _ hn)

theorem IsCycle.may {a : Int} {n : Nat} {f : Nat → E6} (h : IsCycle a n f) : mayN n f = true := mayN_iff.2 fun i hi => by
  have h1 := h.legal i hi
  unfold badL at h1
  cases c : ieq (legF a (f i)) 0 with
  | false => rw [c] at h1; cases h1
  | true =>
    have c := ieq_eq c
    rcases h.arch with ha | ha
    · rw [ieq_eq ha] at c; exact c
    · rw [ieq_eq ha] at c; exact c

theorem IsCycle.chk {a : Int} {n : Nat} {f : Nat → E6} (h : IsCycle a n f) : ieq (chkE a n f) 0 = true ∧ ieq (chkI a n f) 0 = true := by
  unfold chkE chkI
  rw [h.ok]
  exact ⟨rfl, rfl⟩

/-- The least turned list of a turned list is that of the list. -/
theorem canF_turned {n : Nat} {f : Nat → E6} {k : Nat} (hn : 0 < n) (hk : k < n) (hf : mayN n f = true) {i : Nat} (hi : i < n) : canF n (fun i => f ((k + i) % n)) i = canF n f i := by
  have hg : mayN n (fun i => f ((k + i) % n)) = true := mayN_iff.2 fun i _ => mayN_iff.1 hf _ (Nat.mod_lt _ hn)
  have h := least_turned (n := n) (h := fun i => codeN (f i)) (g := fun i => codeN (f ((k + i) % n))) (k := k) hn (fun i _ => rfl) i hi
  exact cdN_inj (canF_may hg hi) (canF_may hf hi) h

theorem canF_can {n : Nat} {f : Nat → E6} (hn : 0 < n) (hf : mayN n f = true) {i : Nat} (hi : i < n) : canF n (fun i => canF n f i) i = canF n f i := by
  have hl := leastN_ok n (fun i => codeN (f i))
  exact canF_turned (k := leastN n (fun i => codeN (f i))) hn (by omega) hf hi

/-! ### The law -/

noncomputable def tb18 : List (Nat × (List V → T (V × List Blk))) := [(48, chkT), (49, chkT), (46, unitT (bV true)), (69, turnedT), (65, canonT), (67, sameCT), (42, sameT)]
theorem tb18_ok : AllPure Tryd.prog Gl tb18 := .cons p48 <| .cons p49 <| .cons p46 <| .cons p69 <| .cons p65 <| .cons p67 <| .cons p42 .nil

def lp18 (a : Int) (n : Nat) (f : Nat → E6) (b : Int) : Lp := ⟨[false, true, false, false, false, false, true, false, false, false, false, false, false, false, true, false, false, false, false, false, false, false, false, false, true, false, false, false, false, false, false, false, false, false, false, false, false, false, false, false, false, false, false, false, false, false, false, false, false, false, false, false, false, false, false, false, false, false, false, false, false, false, false, false, false, false, false, false, false, false, false, false, false, false, false, false, false, false, false, false, false, false, false, false, false, false, false, false, false, false, false, false, false, false, false, false, false, false, false, false, false, false, false, false, false, false, false, false, false, false, false, false, false, false, false, false, false, false, false, false, false, false, false, false, false, false, false, false, false, false, false, false, false, false, false, false, false, false, false], 4, [false, false, false, false, false, false, true, false, false, false, false, false, false, false, false, false, false, false, false, false, false, false, false, false, false, false, false, false, false, false, false, false, false, false, false, false, false, false, false, false, false, false, false, false, false, false, false, false, false, false, false, false, false, false, false, false, false, false, false, false, false, false, false, false, false, false, false, false, false, false, false, false, false, false, false, false, false, false, false, false, false, false, false, false, false, false, false, false, false, false, false, false, false, false, false, false, false, false, false, false, false, false, false, false, false, false, false, false, false, false, false, false, false, false, false, false, false, false, false, false, false, false, false, false, false, false, false, false, false, false, false, false, false, false, false, false, false, false, false], 0, n + 1⟩
def st18 (a : Int) (n : Nat) (f : Nat → E6) (b : Int) (u v w z : Nat → E6) (m : Nat) (j : Nat → V) : St := ⟨[j 0, .sl 6 n (fun i => (eV (f i))), j 2, j 3, j 4, j 5, bV false, j 7, j 8, j 9, j 10, j 11, j 12, j 13, .ref 1, j 15, j 16, j 17, j 18, j 19, j 20, j 21, j 22, j 23, iV (Int.ofNat m), j 25, j 26, j 27, j 28, j 29, j 30, j 31, j 32, j 33, j 34, j 35, j 36, j 37, j 38, j 39, j 40, j 41, j 42, j 43, j 44, j 45, j 46, j 47, j 48, j 49, j 50, j 51, j 52, j 53, j 54, j 55, j 56, j 57, j 58, j 59, j 60, j 61, j 62, j 63, j 64, j 65, j 66, j 67, j 68, j 69, j 70, j 71, j 72, j 73, j 74, j 75, j 76, j 77, j 78, j 79, j 80, j 81, j 82, j 83, j 84, j 85, j 86, j 87, j 88, j 89, j 90, j 91, j 92, j 93, j 94, j 95, j 96, j 97, j 98, j 99, j 100, j 101, j 102, j 103, j 104, j 105, j 106, j 107, j 108, j 109, j 110, j 111, j 112, j 113, j 114, j 115, j 116, j 117, j 118, j 119, j 120, j 121, j 122, j 123, j 124, j 125, j 126, j 127, j 128, j 129, j 130, j 131, j 132, j 133, j 134, j 135, j 136, j 137, j 138], [.row 23 6 n (fun i => eV (u i)), .row 23 6 n (fun i => eV (v i)), .row 23 6 n (fun i => eV (w i)), .row 23 6 n (fun i => eV (z i))]⟩
def en18h (a : Int) (n : Nat) (f : Nat → E6) (b : Int) (u v w z : Nat → E6) (m : Nat) : Ex × St := (.rt, ⟨[.und, .und, .und, .und, .und, .und, bV true, .und, .und, .und, .und, .und, .und, .und, .und, .und, .und, .und, .und, .und, .und, .und, .und, .und, .und, .und, .und, .und, .und, .und, .und, .und, .und, .und, .und, .und, .und, .und, .und, .und, .und, .und, .und, .und, .und, .und, .und, .und, .und, .und, .und, .und, .und, .und, .und, .und, .und, .und, .und, .und, .und, .und, .und, .und, .und, .und, .und, .und, .und, .und, .und, .und, .und, .und, .und, .und, .und, .und, .und, .und, .und, .und, .und, .und, .und, .und, .und, .und, .und, .und, .und, .und, .und, .und, .und, .und, .und, .und, .und, .und, .und, .und, .und, .und, .und, .und, .und, .und, .und, .und, .und, .und, .und, .und, .und, .und, .und, .und, .und, .und, .und, .und, .und, .und, .und, .und, .und, .und, .und, .und, .und, .und, .und, .und, .und, .und, .und, .und, .und], []⟩)
noncomputable def body18 (L : Nat → (St → T (Ex × St)) → St → T (Ex × St)) : St → T (Ex × St) := fun st => evalC tab ⟨callT tb18, L, Gl⟩ (loopBody Tryd.f18 0) 0 st
theorem rc18n_p (L : Nat → (St → T (Ex × St)) → St → T (Ex × St)) (a : Int) (n : Nat) (f : Nat → E6) (b : Int) (u v w z : Nat → E6) (m : Nat)  (j : Nat → V) : ((body18 L (st18 a n f b u v w z m j)).bind fun r => T.leaf (cutR (lp18 a n f b) r)).path [true, true, true, true, true, true, false] = some ([(ilt (Int.ofNat m) (Int.ofNat n)), (allN n (fun _ => Bool.true)), (fitN n), (allN n (fun _ => Bool.true)), (allN n (fun _ => Bool.true)), (smallN n), (sameB n v n (fun i => (turnE n f (Int.ofNat m) i)))], (.nm, ⟨[.und, (.sl 6 n (fun i => (eV (f i)))), .und, .und, .und, .und, (bV Bool.false), .und, .und, .und, .und, .und, .und, .und, (.ref 1), .und, .und, .und, .und, .und, .und, .und, .und, .und, (iV (wr IntKind.i64 (iadd (Int.ofNat m) 1))), .und, .und, .und, .und, .und, .und, .und, .und, .und, .und, .und, .und, .und, .und, .und, .und, .und, .und, .und, .und, .und, .und, .und, .und, .und, .und, .und, .und, .und, .und, .und, .und, .und, .und, .und, .und, .und, .und, .und, .und, .und, .und, .und, .und, .und, .und, .und, .und, .und, .und, .und, .und, .und, .und, .und, .und, .und, .und, .und, .und, .und, .und, .und, .und, .und, .und, .und, .und, .und, .und, .und, .und, .und, .und, .und, .und, .und, .und, .und, .und, .und, .und, .und, .und, .und, .und, .und, .und, .und, .und, .und, .und, .und, .und, .und, .und, .und, .und, .und, .und, .und, .und, .und, .und, .und, .und, .und, .und, .und, .und, .und, .und, .und, .und], [(.row 23 6 n (fun i => (eV (u i)))), (.row 23 6 n (fun i => (eV (v i)))), (.row 23 6 n (fun i => (eV (w i)))), (.row 23 6 n (fun i => (eV (z i))))]⟩)) := by kernel_rfl
theorem rc18n (L : Nat → (St → T (Ex × St)) → St → T (Ex × St)) (a : Int) (n : Nat) (f : Nat → E6) (b : Int) (u v w z : Nat → E6) (m : Nat)  (j : Nat → V) (h0 : ilt (Int.ofNat m) (Int.ofNat n) = true) (h1 : fitN n = true) (h2 : smallN n = true) (h3 : sameB n v n (fun i => (turnE n f (Int.ofNat m) i)) = false) : ((body18 L (st18 a n f b u v w z m j)).bind fun r => T.leaf (cutR (lp18 a n f b) r)).sem = some (.nm, ⟨[.und, (.sl 6 n (fun i => (eV (f i)))), .und, .und, .und, .und, (bV Bool.false), .und, .und, .und, .und, .und, .und, .und, (.ref 1), .und, .und, .und, .und, .und, .und, .und, .und, .und, (iV (wr IntKind.i64 (iadd (Int.ofNat m) 1))), .und, .und, .und, .und, .und, .und, .und, .und, .und, .und, .und, .und, .und, .und, .und, .und, .und, .und, .und, .und, .und, .und, .und, .und, .und, .und, .und, .und, .und, .und, .und, .und, .und, .und, .und, .und, .und, .und, .und, .und, .und, .und, .und, .und, .und, .und, .und, .und, .und, .und, .und, .und, .und, .und, .und, .und, .und, .und, .und, .und, .und, .und, .und, .und, .und, .und, .und, .und, .und, .und, .und, .und, .und, .und, .und, .und, .und, .und, .und, .und, .und, .und, .und, .und, .und, .und, .und, .und, .und, .und, .und, .und, .und, .und, .und, .und, .und, .und, .und, .und, .und, .und, .und, .und, .und, .und, .und, .und, .und, .und, .und, .und, .und, .und], [(.row 23 6 n (fun i => (eV (u i)))), (.row 23 6 n (fun i => (eV (v i)))), (.row 23 6 n (fun i => (eV (w i)))), (.row 23 6 n (fun i => (eV (z i))))]⟩) := by
  exact sem_of_path (rc18n_p L a n f b u v w z m j) (by simp only [h0, h1, h2, h3, allN_true] <;> rfl)
theorem rc18h_p (L : Nat → (St → T (Ex × St)) → St → T (Ex × St)) (a : Int) (n : Nat) (f : Nat → E6) (b : Int) (u v w z : Nat → E6) (m : Nat)  (j : Nat → V) : ((body18 L (st18 a n f b u v w z m j)).bind fun r => T.leaf (cutR (lp18 a n f b) r)).path [true, true, true, true, true, true, true] = some ([(ilt (Int.ofNat m) (Int.ofNat n)), (allN n (fun _ => Bool.true)), (fitN n), (allN n (fun _ => Bool.true)), (allN n (fun _ => Bool.true)), (smallN n), (sameB n v n (fun i => (turnE n f (Int.ofNat m) i)))], (.rt, ⟨[.und, .und, .und, .und, .und, .und, (bV Bool.true), .und, .und, .und, .und, .und, .und, .und, .und, .und, .und, .und, .und, .und, .und, .und, .und, .und, .und, .und, .und, .und, .und, .und, .und, .und, .und, .und, .und, .und, .und, .und, .und, .und, .und, .und, .und, .und, .und, .und, .und, .und, .und, .und, .und, .und, .und, .und, .und, .und, .und, .und, .und, .und, .und, .und, .und, .und, .und, .und, .und, .und, .und, .und, .und, .und, .und, .und, .und, .und, .und, .und, .und, .und, .und, .und, .und, .und, .und, .und, .und, .und, .und, .und, .und, .und, .und, .und, .und, .und, .und, .und, .und, .und, .und, .und, .und, .und, .und, .und, .und, .und, .und, .und, .und, .und, .und, .und, .und, .und, .und, .und, .und, .und, .und, .und, .und, .und, .und, .und, .und, .und, .und, .und, .und, .und, .und, .und, .und, .und, .und, .und, .und], []⟩)) := by kernel_rfl
theorem rc18h (L : Nat → (St → T (Ex × St)) → St → T (Ex × St)) (a : Int) (n : Nat) (f : Nat → E6) (b : Int) (u v w z : Nat → E6) (m : Nat)  (j : Nat → V) (h0 : ilt (Int.ofNat m) (Int.ofNat n) = true) (h1 : fitN n = true) (h2 : smallN n = true) (h3 : sameB n v n (fun i => (turnE n f (Int.ofNat m) i)) = true) : ((body18 L (st18 a n f b u v w z m j)).bind fun r => T.leaf (cutR (lp18 a n f b) r)).sem = some (.rt, ⟨[.und, .und, .und, .und, .und, .und, (bV Bool.true), .und, .und, .und, .und, .und, .und, .und, .und, .und, .und, .und, .und, .und, .und, .und, .und, .und, .und, .und, .und, .und, .und, .und, .und, .und, .und, .und, .und, .und, .und, .und, .und, .und, .und, .und, .und, .und, .und, .und, .und, .und, .und, .und, .und, .und, .und, .und, .und, .und, .und, .und, .und, .und, .und, .und, .und, .und, .und, .und, .und, .und, .und, .und, .und, .und, .und, .und, .und, .und, .und, .und, .und, .und, .und, .und, .und, .und, .und, .und, .und, .und, .und, .und, .und, .und, .und, .und, .und, .und, .und, .und, .und, .und, .und, .und, .und, .und, .und, .und, .und, .und, .und, .und, .und, .und, .und, .und, .und, .und, .und, .und, .und, .und, .und, .und, .und, .und, .und, .und, .und, .und, .und, .und, .und, .und, .und, .und, .und, .und, .und, .und, .und], []⟩) := by
  exact sem_of_path (rc18h_p L a n f b u v w z m j) (by simp only [h0, h1, h2, h3, allN_true] <;> rfl)

theorem wc18a_p (L : Nat → (St → T (Ex × St)) → St → T (Ex × St)) (a : Int) (n : Nat) (f : Nat → E6) (b : Int) : (finF (evalF tab ⟨callT tb18, L, Gl⟩ Tryd.f18 [iV a, edgesV n f, iV b] [])).path [true, true, true, true, false, false, false, false, true] = some ([(allN n (fun _ => Bool.true)), (fitN n), (allN n (fun _ => Bool.true)), (fitN n), (bnot (ieq (chkE a n f) (chkE a n f))), (bnot (ieq (chkE a n f) (chkE a n f))), (bnot (ieq (chkE a n f) (chkE a n f))), (bnot Bool.true), (bnot (ieq (chkE a n f) 0))], ((bV Bool.true), [])) := by kernel_rfl
theorem wc18a (L : Nat → (St → T (Ex × St)) → St → T (Ex × St)) (a : Int) (n : Nat) (f : Nat → E6) (b : Int) (h0 : fitN n = true) (h1 : ieq (chkE a n f) (chkE a n f) = true) (h2 : ieq (chkE a n f) 0 = false) : (finF (evalF tab ⟨callT tb18, L, Gl⟩ Tryd.f18 [iV a, edgesV n f, iV b] [])).sem = some ((bV Bool.true), []) := by
  exact sem_of_path (wc18a_p L a n f b) (by simp only [h0, h1, h2, allN_true] <;> rfl)

def ent18 (a : Int) (n : Nat) (f : Nat → E6) (b : Int)  : St := ⟨[(iV a), (.sl 6 n (fun i => (eV (f i)))), (iV b), undefV, undefV, undefV, (bV Bool.false), (iV (chkE a n f)), (iV (chkI a n f)), (iV (chkE a n f)), (iV (chkI a n f)), (.ref 0), (iV (chkE a n (fun i => (turnE n f b i)))), (iV (chkI a n (fun i => (turnE n f b i)))), (.ref 1), (iV 0), (.ref 2), (iV 0), (bV (sameC n f n (fun i => (turnE n f b i)))), (iV 0), (iV (chkE a n (fun i => (canF n f i)))), (iV (chkI a n (fun i => (canF n f i)))), (.ref 3), (iV 0), (iV 0), (.tup [(iV (chkE a n f)), (iV (chkI a n f))]), (iV a), (.sl 6 n (fun i => (eV (f i)))), (.tup [(iV (chkE a n f)), (iV (chkI a n f))]), (iV (chkE a n f)), (iV (chkI a n f)), (.tup [(iV (chkE a n f)), (iV (chkI a n f))]), (iV a), (.sl 6 n (fun i => (eV (f i)))), (.tup [(iV (chkE a n f)), (iV (chkI a n f))]), (iV (chkE a n f)), (iV (chkI a n f)), (iV (chkE a n f)), (iV (chkE a n f)), (bV (bnot (ieq (chkE a n f) (chkE a n f)))), (bV (bnot (ieq (chkE a n f) (chkE a n f)))), (bV Bool.true), (bV (bnot Bool.true)), (bV (bnot Bool.true)), (iV (chkE a n f)), (bV (bnot (ieq (chkE a n f) 0))), (.sl 6 n (fun i => (eV (f i)))), (iV b), (.ref 0), (.tup [(iV (chkE a n (fun i => (turnE n f b i)))), (iV (chkI a n (fun i => (turnE n f b i))))]), (iV a), (.ref 0), (.tup [(iV (chkE a n (fun i => (turnE n f b i)))), (iV (chkI a n (fun i => (turnE n f b i))))]), (iV (chkE a n (fun i => (turnE n f b i)))), (iV (chkI a n (fun i => (turnE n f b i)))), (.tup [(.ref 1), (iV 0)]), (.sl 6 n (fun i => (eV (f i)))), (.tup [(.ref 1), (iV 0)]), (.ref 1), (iV 0), (.tup [(.ref 2), (iV 0)]), (.ref 0), (.tup [(.ref 2), (iV 0)]), (.ref 2), (iV 0), (.tup [(bV (sameC n f n (fun i => (turnE n f b i)))), (iV 0)]), (.sl 6 n (fun i => (eV (f i)))), (.ref 0), (.tup [(bV (sameC n f n (fun i => (turnE n f b i)))), (iV 0)]), (bV (sameC n f n (fun i => (turnE n f b i)))), (iV 0), (.tup [(iV (chkE a n (fun i => (canF n f i)))), (iV (chkI a n (fun i => (canF n f i))))]), (iV a), (.ref 1), (.tup [(iV (chkE a n (fun i => (canF n f i)))), (iV (chkI a n (fun i => (canF n f i))))]), (iV (chkE a n (fun i => (canF n f i)))), (iV (chkI a n (fun i => (canF n f i)))), (.tup [(.ref 3), (iV 0)]), (.ref 1), (.tup [(.ref 3), (iV 0)]), (.ref 3), (iV 0), (iV (chkE a n (fun i => (turnE n f b i)))), (bV (bnot (ieq (chkE a n (fun i => (turnE n f b i))) 0))), (bV (bnot (ieq (chkE a n (fun i => (turnE n f b i))) 0))), (iV (chkI a n (fun i => (turnE n f b i)))), (bV (bnot (ieq (chkI a n (fun i => (turnE n f b i))) 0))), (bV (bnot (ieq (chkI a n (fun i => (turnE n f b i))) 0))), (bV (bnot (ieq (chkI a n (fun i => (turnE n f b i))) 0))), (iV 0), (bV (bnot (ieq 0 0))), (bV (bnot (ieq 0 0))), (bV (bnot (ieq 0 0))), (iV 0), (bV (bnot (ieq 0 0))), (bV (bnot (ieq 0 0))), (bV (bnot (ieq 0 0))), (iV 0), (bV (bnot (ieq 0 0))), (bV (bnot (ieq 0 0))), (bV (bnot (ieq 0 0))), (iV (chkE a n (fun i => (canF n f i)))), (bV (bnot (ieq (chkE a n (fun i => (canF n f i))) 0))), (bV (bnot (ieq (chkE a n (fun i => (canF n f i))) 0))), (bV (bnot (ieq (chkE a n (fun i => (canF n f i))) 0))), (iV (chkI a n (fun i => (canF n f i)))), (bV (bnot (ieq (chkI a n (fun i => (canF n f i))) 0))), (bV (bnot (ieq (chkI a n (fun i => (canF n f i))) 0))), (bV (bnot (ieq (chkI a n (fun i => (canF n f i))) 0))), (iV 0), (bV (bnot (ieq 0 0))), (bV (bnot (ieq 0 0))), (bV (bnot (ieq 0 0))), (bV (sameC n f n (fun i => (turnE n f b i)))), (bV (bnot (sameC n f n (fun i => (turnE n f b i))))), (bV (bnot (sameC n f n (fun i => (turnE n f b i))))), (bV (bnot (sameC n f n (fun i => (turnE n f b i))))), (.ref 1), (.ref 2), (bV (sameB n (fun i => (canF n f i)) n (fun i => (canF n (fun i => (turnE n f b i)) i)))), (bV (bnot (sameB n (fun i => (canF n f i)) n (fun i => (canF n (fun i => (turnE n f b i)) i))))), (bV (bnot (sameB n (fun i => (canF n f i)) n (fun i => (canF n (fun i => (turnE n f b i)) i))))), (bV (bnot (sameB n (fun i => (canF n f i)) n (fun i => (canF n (fun i => (turnE n f b i)) i))))), (.ref 3), (.ref 1), (bV (sameB n (fun i => (canF n (fun i => (canF n f i)) i)) n (fun i => (canF n f i)))), (bV (bnot (sameB n (fun i => (canF n (fun i => (canF n f i)) i)) n (fun i => (canF n f i))))), (bV (bnot (sameB n (fun i => (canF n (fun i => (canF n f i)) i)) n (fun i => (canF n f i))))), undefV, undefV, undefV, undefV, undefV, undefV, undefV, undefV, undefV, undefV, undefV], [(.row 23 6 n (fun i => (eV (turnE n f b i)))), (.row 23 6 n (fun i => (eV (canF n f i)))), (.row 23 6 n (fun i => (eV (canF n (fun i => (turnE n f b i)) i)))), (.row 23 6 n (fun i => (eV (canF n (fun i => (canF n f i)) i))))]⟩

theorem wc18b_p (L : Nat → (St → T (Ex × St)) → St → T (Ex × St)) (p0 : (St → T (Ex × St)) → St → Bool) (a : Int) (n : Nat) (f : Nat → E6) (b : Int) (u v w z : Nat → E6) (m : Nat) : (finF (evalF tab ⟨callT tb18, (onP 0 p0 (en18h a n f b u v w z m) L), Gl⟩ Tryd.f18 [iV a, edgesV n f, iV b] [])).path [true, true, true, true, false, false, false, false, false, true, true, true, true, true, true, true, true, true, true, true, true, true, true, true, true, true, true, true, true, true, true, false, false, false, false, false, false, false, false, false, false, false, false, false, false, false, false, false, false, false, false, false, false, false, false, false, false, false, true, true, true, false, false, false, false, false, true, true, true, false, false, false, true] = some ([(allN n (fun _ => Bool.true)), (fitN n), (allN n (fun _ => Bool.true)), (fitN n), (bnot (ieq (chkE a n f) (chkE a n f))), (bnot (ieq (chkE a n f) (chkE a n f))), (bnot (ieq (chkE a n f) (chkE a n f))), (bnot Bool.true), (bnot (ieq (chkE a n f) 0)), (allN n (fun _ => Bool.true)), (fitN n), (allN n (fun _ => Bool.true)), (fitN n), (allN n (fun _ => Bool.true)), (fitN n), (mayN n f), (allN n (fun _ => Bool.true)), (fitN n), (mayN n (fun i => (turnE n f b i))), (rowsBare [.row 3 1 n (fun _ => iV 0)]), (allN n (fun _ => Bool.true)), (allN n (fun _ => Bool.true)), (fitN n), (fitN n), (band (mayN n f) (mayN n (fun i => (turnE n f b i)))), (allN n (fun _ => Bool.true)), (fitN n), (allN n (fun _ => Bool.true)), (fitN n), (mayN n (fun i => (canF n f i))), (rowsBare [.row 3 1 n (fun _ => iV 0)]), (bnot (ieq (chkE a n (fun i => (turnE n f b i))) 0)), (bnot (ieq (chkE a n (fun i => (turnE n f b i))) 0)), (bnot (ieq (chkE a n (fun i => (turnE n f b i))) 0)), (bnot (ieq (chkI a n (fun i => (turnE n f b i))) 0)), (bnot (ieq (chkI a n (fun i => (turnE n f b i))) 0)), (bnot (ieq (chkI a n (fun i => (turnE n f b i))) 0)), (bnot (ieq 0 0)), (bnot (ieq 0 0)), (bnot (ieq 0 0)), (bnot (ieq 0 0)), (bnot (ieq 0 0)), (bnot (ieq 0 0)), (bnot (ieq 0 0)), (bnot (ieq 0 0)), (bnot (ieq 0 0)), (bnot (ieq (chkE a n (fun i => (canF n f i))) 0)), (bnot (ieq (chkE a n (fun i => (canF n f i))) 0)), (bnot (ieq (chkE a n (fun i => (canF n f i))) 0)), (bnot (ieq (chkI a n (fun i => (canF n f i))) 0)), (bnot (ieq (chkI a n (fun i => (canF n f i))) 0)), (bnot (ieq (chkI a n (fun i => (canF n f i))) 0)), (bnot (ieq 0 0)), (bnot (ieq 0 0)), (bnot (ieq 0 0)), (bnot (sameC n f n (fun i => (turnE n f b i)))), (bnot (sameC n f n (fun i => (turnE n f b i)))), (bnot (sameC n f n (fun i => (turnE n f b i)))), (allN n (fun _ => Bool.true)), (allN n (fun _ => Bool.true)), (smallN n), (bnot (sameC n f n (fun i => (turnE n f b i)))), (bnot (sameC n f n (fun i => (turnE n f b i)))), (bnot (sameB n (fun i => (canF n f i)) n (fun i => (canF n (fun i => (turnE n f b i)) i)))), (bnot (sameB n (fun i => (canF n f i)) n (fun i => (canF n (fun i => (turnE n f b i)) i)))), (bnot (sameB n (fun i => (canF n f i)) n (fun i => (canF n (fun i => (turnE n f b i)) i)))), (allN n (fun _ => Bool.true)), (allN n (fun _ => Bool.true)), (smallN n), (bnot (sameB n (fun i => (canF n f i)) n (fun i => (canF n (fun i => (turnE n f b i)) i)))), (bnot (sameB n (fun i => (canF n f i)) n (fun i => (canF n (fun i => (turnE n f b i)) i)))), (bnot (sameB n (fun i => (canF n (fun i => (canF n f i)) i)) n (fun i => (canF n f i)))), (p0 (body18 (onP 0 p0 (en18h a n f b u v w z m) L)) (ent18 a n f b))], ((bV Bool.true), [])) := by kernel_rfl
theorem wc18b (L : Nat → (St → T (Ex × St)) → St → T (Ex × St)) (p0 : (St → T (Ex × St)) → St → Bool) (a : Int) (n : Nat) (f : Nat → E6) (b : Int) (u v w z : Nat → E6) (m : Nat) (h16 : fitN n = true) (h17 : ieq (chkE a n f) (chkE a n f) = true) (h18 : ieq (chkE a n f) 0 = true) (h19 : mayN n f = true) (h20 : mayN n (fun i => (turnE n f b i)) = true) (h21 : rowsBare [.row 3 1 n (fun _ => iV 0)] = true) (h22 : mayN n (fun i => (canF n f i)) = true) (h23 : ieq (chkE a n (fun i => (turnE n f b i))) 0 = true) (h24 : ieq (chkI a n (fun i => (turnE n f b i))) 0 = true) (h25 : ieq (chkE a n (fun i => (canF n f i))) 0 = true) (h26 : ieq (chkI a n (fun i => (canF n f i))) 0 = true) (h27 : sameC n f n (fun i => (turnE n f b i)) = true) (h28 : smallN n = true) (h29 : sameB n (fun i => (canF n f i)) n (fun i => (canF n (fun i => (turnE n f b i)) i)) = true) (h30 : sameB n (fun i => (canF n (fun i => (canF n f i)) i)) n (fun i => (canF n f i)) = true) (hp0 : p0 (body18 (onP 0 p0 (en18h a n f b u v w z m) L)) (ent18 a n f b) = true) : (finF (evalF tab ⟨callT tb18, (onP 0 p0 (en18h a n f b u v w z m) L), Gl⟩ Tryd.f18 [iV a, edgesV n f, iV b] [])).sem = some ((bV Bool.true), []) := by
  exact sem_of_path (wc18b_p L p0 a n f b u v w z m) (by simp only [hp0] <;> simp only [h16, h17, h18, h19, h20, h21, h22, h23, h24, h25, h26, h27, h28, h29, h30, allN_true, rowsBare_iV] <;> rfl)

theorem run18 (L : Nat → (St → T (Ex × St)) → St → T (Ex × St)) (a : Int) (n : Nat) (f : Nat → E6) (b : Int) (u v w z : Nat → E6) (hF : fitN n = true) : ∀ (d m t : Nat) (j : Nat → V) (q : Nat), n = m + d → d < q → firstQ (fun m => sameB n v n (fun i => turnE n f (Int.ofNat m) i)) d m = some t →
    (iterT (body18 L) (lp18 a n f b) q (st18 a n f b u v w z m j)).sem = some (en18h a n f b u v w z t)
  | 0, m, t, j, q, _, _, h => by cases h
  | d + 1, m, t, j, q + 1, h, h2, h3 => by
    have hl : m < n := by omega
    have hs : smallN n = true := fit8_s (fitN_8 hF)
    cases c1 : sameB n v n (fun i => turnE n f (Int.ofNat m) i) with
    | true =>
      rw [firstQ_t (q := fun m => sameB n v n (fun i => turnE n f (Int.ofNat m) i)) c1] at h3
      simp only [Option.some.injEq] at h3
      subst h3
      exact iter_round (rc18h L a n f b u v w z m j (ofNat_lt hl) hF hs c1)
    | false =>
      rw [firstQ_f (q := fun m => sameB n v n (fun i => turnE n f (Int.ofNat m) i)) c1] at h3
      rw [iter_round (rc18n L a n f b u v w z m j (ofNat_lt hl) hF hs c1), goOn_nm, succ_wr hl (fit8_small (fitN_8 hF))]
      exact run18 L a n f b u v w z hF d (m + 1) t (fun _ => .und) q (by omega) (by omega) h3

theorem ent18_eq (a : Int) (n : Nat) (f : Nat → E6) (b : Int) : ent18 a n f b = st18 a n f b (turnE n f b) (canF n f) (canF n fun i => turnE n f b i) (canF n fun i => canF n f i) 0 (fun i => nth (ent18 a n f b).t i) := by kernel_rfl

def law18T : List V → T (V × List Blk)
  | [.val (.int .i64 _), v, .val (.int .i64 _)] => apL v fun n _ => .br (fitN n) (out (bV true)) .fail
  | _ => .fail

theorem p18 : PureC Tryd.prog Gl 18 law18T := by
  refine pureC_intro tabOK mixed Tryd.func18 (by kernel_rfl) (by kernel_rfl) fun vs v h' h => ?_
  unfold law18T at h
  split at h
  · rename_i a u b
    obtain ⟨n, f, ha, h1⟩ := apL_some h
    obtain ⟨hn, hq⟩ := sem_br_fail h1
    have := sem_leaf hq
    simp only [Prod.mk.injEq] at this
    obtain ⟨rfl, rfl⟩ := this
    have hA : ArgLE [.val (.int .i64 a), u, .val (.int .i64 b)] [iV a, edgesV n f, iV b] := fun S w cs hv => by
      obtain ⟨c, l, rfl, q1, c2, l2, rfl, q2, q3⟩ := hv
      exact ⟨c, _, rfl, q1, c2, l2, rfl, ha S w c2 q2, q3⟩
    have hx := cx_ok tb18_ok [(0, lp18 a n f b)]
    have hL := loopsBy_le [(0, lp18 a n f b)]
    refine ⟨_, cxOf Gl tb18 [(0, lp18 a n f b)], _, hA, rfl, hx.1, hx.2, ?_, RowsLE.refl _⟩
    cases hc : ieq (chkE a n f) 0 with
    | false => exact wc18a _ a n f b hn (ieq_rfl _) hc
    | true =>
      have hy := isCycle_of hc
      have hlo := hy.lo
      have hs : smallN n = true := fit8_s (fitN_8 hn)
      have hk := turnK_lt b (show 0 < n by omega) (fit8_small (fitN_8 hn))
      have hd : IsCycle a n (fun i => turnE n f b i) := hy.turned hk
      have hll := leastN_ok n (fun i => codeN (f i))
      have hll2 : leastN n (fun i => codeN (f i)) < n := by omega
      have ha2 : IsCycle a n (fun i => canF n f i) := hy.turned hll2
      have e1 : ∀ i, i < n → canF n f i = canF n (fun i => turnE n f b i) i := fun i hi => (canF_turned (by omega) hk hy.may hi).symm
      have s1 : sameC n f n (fun i => turnE n f b i) = true := (sameC_iff hy.may hd.may).2 ⟨rfl, e1⟩
      have s2 : sameB n (fun i => canF n f i) n (fun i => canF n (fun i => turnE n f b i) i) = true := sameB_at.2 ⟨rfl, e1⟩
      have s3 : sameB n (fun i => canF n (fun i => canF n f i) i) n (fun i => canF n f i) = true := sameB_at.2 ⟨rfl, fun i hi => canF_can (by omega) hy.may hi⟩
      obtain ⟨t, ht⟩ : ∃ t, firstQ (fun m => sameB n (canF n f) n (fun i => turnE n f (Int.ofNat m) i)) n 0 = some t := by
        cases hq : firstQ (fun m => sameB n (canF n f) n (fun i => turnE n f (Int.ofNat m) i)) n 0 with
        | some t => exact ⟨t, rfl⟩
        | none =>
          have := firstQ_none.1 hq (leastN n (fun i => codeN (f i))) (Nat.zero_le _) (by omega)
          have h5 : sameB n (canF n f) n (fun i => turnE n f (Int.ofNat (leastN n (fun i => codeN (f i)))) i) = true := sameB_at.2 ⟨rfl, fun i _ => by
            unfold turnE canF
            rw [turnK_nat hll2]⟩
          rw [h5] at this
          cases this
      have hr : ∀ L, (loopsBy [(0, lp18 a n f b)] 0 (body18 L) (ent18 a n f b)).sem = some (en18h a n f b (turnE n f b) (canF n f) (canF n fun i => turnE n f b i) (canF n fun i => canF n f i) t) := fun L => by
        show (iterT (body18 L) (lp18 a n f b) (n + 1) (ent18 a n f b)).sem = _
        rw [ent18_eq]
        exact run18 L a n f b _ _ _ _ hn n 0 t _ (n + 1) (by omega) (by omega) ht
      exact told_le (onP_le hL hL) _ (wc18b _ _ a n f b _ _ _ _ t hn (ieq_rfl _) hc hy.may hd.may rowsBare_iV ha2.may hd.chk.1 hd.chk.2 ha2.chk.1 ha2.chk.2 s1 hs s2 s3 (isP_true (hr _)))
  · cases h

theorem law18_sem {a b : Int} {n : Nat} (f : Nat → E6) (hn : n * 40 ≤ 140737488355328) : (law18T [iV a, edgesV n f, iV b]).sem = some (bV true, []) := by
  show (apL (edgesV n f) fun n _ => T.br (fitN n) (out (bV true)) .fail).sem = _
  rw [apLsem]
  have hn : fitN n = true := decide_eq_true hn
  simp only [hn]
  rfl

#print axioms p18

end Go.Proofs.YtcaljjnadbpacaaDoor.Ed
