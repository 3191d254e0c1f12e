/-
  The least turned list of edges; a list turned. No conditions.
-/
import Derived.Test.YtkcbdemfmjciiaaGreatDoorCyT
namespace Go.Proofs.YtkcbdemfmjciiaaGreatDoor.Ed
open Go.Sy

theorem ne_0u {i n : Nat} (h : i < n) : ieq (Int.ofNat n) 0 = false := by rw [show (0 : Int) = Int.ofNat 0 from rfl, ieq_nat, decide_eq_false (by omega)]

/-! ### The least turned list -/

def rotH (n : Nat) (h : Nat → Int) (p i : Nat) : Int := h ((p + i) % n)
/-- The list turned by p stands ahead of that turned by q. -/
def lexLt (n : Nat) (h : Nat → Int) (p q : Nat) : Prop := ∃ s, s < n ∧ (∀ t, t < s → rotH n h p t = rotH n h q t) ∧ rotH n h p s < rotH n h q s
def isMin (n : Nat) (h : Nat → Int) (p : Nat) : Prop := p < n ∧ ∀ q, q < n → ¬ lexLt n h q p

theorem lexLt_irrefl {n : Nat} {h : Nat → Int} {p : Nat} : ¬ lexLt n h p p := by
  rintro ⟨s, _, _, h3⟩
  omega

theorem lexLt_trans {n : Nat} {h : Nat → Int} {a b c : Nat} (h1 : lexLt n h a b) (h2 : lexLt n h b c) : lexLt n h a c := by
  obtain ⟨s, s1, s2, s3⟩ := h1
  obtain ⟨r, r1, r2, r3⟩ := h2
  rcases Nat.lt_trichotomy s r with e | e | e
  · exact ⟨s, s1, fun t ht => (s2 t ht).trans (r2 t (by omega)), by rw [← r2 s e]; exact s3⟩
  · subst e
    exact ⟨s, s1, fun t ht => (s2 t ht).trans (r2 t ht), by omega⟩
  · exact ⟨r, r1, fun t ht => (s2 t (by omega)).trans (r2 t ht), by rw [s2 r e]; exact r3⟩

theorem lexLt_total (n : Nat) (h : Nat → Int) (p q : Nat) : ∀ m, m ≤ n → (∃ s, s < m ∧ (∀ t, t < s → rotH n h p t = rotH n h q t) ∧ rotH n h p s ≠ rotH n h q s) ∨ ∀ t, t < m → rotH n h p t = rotH n h q t
  | 0, _ => .inr fun t ht => absurd ht (Nat.not_lt_zero t)
  | m + 1, hm => by
    rcases lexLt_total n h p q m (by omega) with ⟨s, h1, h2, h3⟩ | h1
    · exact .inl ⟨s, by omega, h2, h3⟩
    · by_cases e : rotH n h p m = rotH n h q m
      · refine .inr fun t ht => ?_
        by_cases et : t = m
        · rw [et]; exact e
        · exact h1 t (by omega)
      · exact .inl ⟨m, by omega, h1, e⟩

/-- Two least ones are the same list. -/
theorem isMin_eq {n : Nat} {h : Nat → Int} {p q : Nat} (hp : isMin n h p) (hq : isMin n h q) : ∀ t, t < n → rotH n h p t = rotH n h q t := by
  rcases lexLt_total n h p q n (Nat.le_refl n) with ⟨s, h1, h2, h3⟩ | h1
  · rcases Int.lt_or_gt_of_ne h3 with e | e
    · exact absurd ⟨s, h1, h2, e⟩ (hq.2 p hp.1)
    · exact absurd ⟨s, h1, fun t ht => (h2 t ht).symm, e⟩ (hp.2 q hq.1)
  · exact h1

theorem exists_min (n : Nat) (h : Nat → Int) : ∀ m, 0 < m → ∃ p, p < m ∧ ∀ q, q < m → ¬ lexLt n h q p
  | 0, hm => absurd hm (Nat.lt_irrefl 0)
  | 1, _ => ⟨0, by omega, fun q hq => by
      have : q = 0 := by omega
      subst this
      exact lexLt_irrefl⟩
  | m + 2, _ => by
    obtain ⟨p, h1, h2⟩ := exists_min n h (m + 1) (by omega)
    by_cases e : lexLt n h (m + 1) p
    · refine ⟨m + 1, by omega, fun q hq hl => ?_⟩
      by_cases eq : q = m + 1
      · subst eq; exact lexLt_irrefl hl
      · exact h2 q (by omega) (lexLt_trans hl e)
    · refine ⟨p, by omega, fun q hq hl => ?_⟩
      by_cases eq : q = m + 1
      · subst eq; exact e hl
      · exact h2 q (by omega) hl

theorem rot_mod (n : Nat) (h : Nat → Int) (a u : Nat) : rotH n h (a % n) u = h ((a + u) % n) := by
  unfold rotH
  rw [Nat.mod_add_mod]

/-- All beginnings along which one fails are no least ones. -/
theorem skip_not {n : Nat} {h : Nat → Int} {i j s : Nat} (hs : s < n) (h1 : ∀ t, t < s → h ((i + t) % n) = h ((j + t) % n)) (h2 : h ((j + s) % n) < h ((i + s) % n)) : ∀ p, i ≤ p → p ≤ i + s → ¬ isMin n h p := by
  intro p hp1 hp2 hm
  obtain ⟨hpn, hm⟩ := hm
  refine hm ((j + (p - i)) % n) (Nat.mod_lt _ (by omega)) ⟨s - (p - i), by omega, fun t ht => ?_, ?_⟩
  · rw [rot_mod]
    unfold rotH
    have := h1 (p - i + t) (by omega)
    rw [show i + (p - i + t) = p + t by omega, show j + (p - i + t) = j + (p - i) + t by omega] at this
    exact this.symm
  · rw [rot_mod]
    unfold rotH
    rw [show j + (p - i) + (s - (p - i)) = j + s by omega, show p + (s - (p - i)) = i + s by omega]
    exact h2

/-- Of two beginnings of one list, the first is a least one if there is a least one at it or behind the second. -/
theorem period_min {n : Nat} {h : Nat → Int} {lo hi : Nat} (hlt : lo < hi) (h1 : ∀ u, u < n → h ((hi + u) % n) = h ((lo + u) % n)) (hno : ∀ p, p < n → p < hi → p ≠ lo → ¬ isMin n h p) : ∀ m p, p ≤ m → isMin n h p → isMin n h lo := by
  intro m
  induction m with
  | zero =>
    intro p hp hm
    by_cases e : p = lo
    · rw [← e]; exact hm
    · exact absurd hm (hno p hm.1 (by omega) e)
  | succ m ih =>
    intro p hp hm
    by_cases e : p = lo
    · rw [← e]; exact hm
    · by_cases hph : p < hi
      · exact absurd hm (hno p hm.1 hph e)
      · have hpn := hm.1
        have hr : ∀ u, u < n → rotH n h p u = rotH n h (p - (hi - lo)) u := fun u _ => by
          unfold rotH
          have := h1 ((p - hi + u) % n) (Nat.mod_lt _ (by omega))
          rw [Nat.add_mod_mod, Nat.add_mod_mod, show hi + (p - hi + u) = p + u by omega, show lo + (p - hi + u) = p - (hi - lo) + u by omega] at this
          exact this
        refine ih (p - (hi - lo)) (by omega) ⟨by omega, fun q hq hl => ?_⟩
        obtain ⟨s, s1, s2, s3⟩ := hl
        exact hm.2 q hq ⟨s, s1, fun t ht => (s2 t ht).trans (hr t (by omega)).symm, by rw [hr s s1]; exact s3⟩

theorem leastG_min (n : Nat) (h : Nat → Int) (hn : 0 < n) : ∀ q i t s, i ≠ t → min i t < n → i ≤ 2 * n → t ≤ 2 * n + 1 → s ≤ n → (∀ u, u < s → h ((i + u) % n) = h ((t + u) % n)) →
    (∀ p, p < n → p < max i t → p ≠ min i t → ¬ isMin n h p) → 3 * n + 1 - (i + t + s) < q → isMin n h (leastG n h q i t s) := by
  intro q
  obtain ⟨p0, hp0⟩ : ∃ p, isMin n h p := by
    obtain ⟨p, h1, h2⟩ := exists_min n h n hn
    exact ⟨p, h1, h2⟩
  have hp0n := hp0.1
  induction q with
  | zero => intro i t s _ _ _ _ _ _ _ hq; exact absurd hq (Nat.not_lt_zero _)
  | succ q ih =>
    intro i t s hne hmin hi ht hs heq hno hq
    unfold leastG
    split
    · rename_i hx
      have hmin0 : ∀ lo, lo = min i t → isMin n h lo → isMin n h (min (min i t) (n - 1)) := fun lo hlo hm => by
        rw [show min (min i t) (n - 1) = lo by omega]; exact hm
      by_cases c : n ≤ i ∨ n ≤ t
      · refine hmin0 (min i t) rfl ?_
        by_cases e : p0 = min i t
        · rw [← e]; exact hp0
        · exact absurd hp0 (hno p0 hp0n (by omega) e)
      · refine hmin0 (min i t) rfl ?_
        have hsn : s = n := by omega
        subst hsn
        by_cases c2 : i < t
        · rw [show min i t = i by omega]
          exact period_min c2 (fun u hu => (heq u hu).symm) (fun p hp h1 h2 => hno p hp (by omega) (by omega)) p0 p0 (Nat.le_refl _) hp0
        · rw [show min i t = t by omega]
          exact period_min (show t < i by omega) (fun u hu => heq u hu) (fun p hp h1 h2 => hno p hp (by omega) (by omega)) p0 p0 (Nat.le_refl _) hp0
    · rename_i hx
      split
      · rename_i he
        refine ih i t (s + 1) hne hmin hi ht (by omega) (fun u hu => ?_) hno (by omega)
        by_cases eu : u = s
        · rw [eu]; exact he
        · exact heq u (by omega)
      · rename_i he
        split
        · rename_i hg
          have hsk := skip_not (by omega) heq hg
          split
          · rename_i e
            exact ih (i + s + 1) (t + 1) 0 (by omega) (by omega) (by omega) (by omega) (by omega) (fun u hu => absurd hu (Nat.not_lt_zero u)) (fun p hp h1 h2 => by
              by_cases hr : i ≤ p ∧ p ≤ i + s
              · exact hsk p hr.1 hr.2
              · exact hno p hp (by omega) (by omega)) (by omega)
          · rename_i e
            exact ih (i + s + 1) t 0 (by omega) (by omega) (by omega) (by omega) (by omega) (fun u hu => absurd hu (Nat.not_lt_zero u)) (fun p hp h1 h2 => by
              by_cases hr : i ≤ p ∧ p ≤ i + s
              · exact hsk p hr.1 hr.2
              · exact hno p hp (by omega) (by omega)) (by omega)
        · rename_i hg
          have hg2 : h ((i + s) % n) < h ((t + s) % n) := by omega
          have hsk := skip_not (by omega) (fun u hu => (heq u hu).symm) hg2
          split
          · rename_i e
            exact ih i (t + s + 2) 0 (by omega) (by omega) (by omega) (by omega) (by omega) (fun u hu => absurd hu (Nat.not_lt_zero u)) (fun p hp h1 h2 => by
              by_cases hr : t ≤ p ∧ p ≤ t + s
              · exact hsk p hr.1 hr.2
              · exact hno p hp (by omega) (by omega)) (by omega)
          · rename_i e
            exact ih i (t + s + 1) 0 (by omega) (by omega) (by omega) (by omega) (by omega) (fun u hu => absurd hu (Nat.not_lt_zero u)) (fun p hp h1 h2 => by
              by_cases hr : t ≤ p ∧ p ≤ t + s
              · exact hsk p hr.1 hr.2
              · exact hno p hp (by omega) (by omega)) (by omega)

/-- Where the program's walk ends, a least turned list begins. -/
theorem leastN_min (n : Nat) (h : Nat → Int) (hn : 0 < n) : isMin n h (leastN n h) :=
  leastG_min n h hn _ 0 1 0 (by omega) (by omega) (by omega) (by omega) (by omega) (fun u hu => absurd hu (Nat.not_lt_zero u)) (fun p _ h1 h2 => by omega) (by omega)

/-- A list's least turned list is that of all its turned ones. -/
theorem least_turned {n : Nat} {h g : Nat → Int} {k : Nat} (hn : 0 < n) (hg : ∀ i, i < n → g i = h ((k + i) % n)) : ∀ i, i < n → rotH n g (leastN n g) i = rotH n h (leastN n h) i := by
  have hr : ∀ p u, rotH n g p u = rotH n h ((k + p) % n) u := fun p u => by
    rw [rot_mod]
    unfold rotH
    rw [hg _ (Nat.mod_lt _ hn), Nat.add_mod_mod, Nat.add_assoc]
  have hm := leastN_min n g hn
  have hm2 : isMin n h ((k + leastN n g) % n) := by
    refine ⟨Nat.mod_lt _ hn, fun q hq hl => ?_⟩
    have e : (k + (q + (n - k % n)) % n) % n = q := by
      rw [Nat.add_mod_mod, ← Nat.mod_add_mod, show k % n + (q + (n - k % n)) = q + n by have := Nat.mod_lt k hn; omega, Nat.add_mod_right, Nat.mod_eq_of_lt hq]
    refine hm.2 ((q + (n - k % n)) % n) (Nat.mod_lt _ hn) ?_
    obtain ⟨s, s1, s2, s3⟩ := hl
    refine ⟨s, s1, fun t ht => ?_, ?_⟩
    · rw [hr, hr, e]; exact s2 t ht
    · rw [hr, hr, e]; exact s3
  intro i hi
  rw [hr]
  exact isMin_eq hm2 (leastN_min n h hn) i hi
/-! ### Parts, turned -/

/-! ### A list of edges, turned -/

/-- By how many places a list is turned, from 0 on. -/
def turnK (n : Nat) (b : Int) : Nat := toN (sel (ilt (itmod b (Int.ofNat n)) 0) (itmod b (Int.ofNat n) + Int.ofNat n) (itmod b (Int.ofNat n)))
def turnE (n : Nat) (f : Nat → E6) (b : Int) (i : Nat) : E6 := f ((turnK n b + i) % n)

theorem tmod_bounds (b : Int) {n : Nat} (h : 0 < n) : -(n : Int) < itmod b (Int.ofNat n) ∧ itmod b (Int.ofNat n) < (n : Int) := by
  unfold itmod
  have h1 : (0 : Int) < Int.ofNat n := by simp only [Int.ofNat_eq_natCast]; omega
  exact ⟨Int.lt_tmod_of_pos b h1, Int.tmod_lt_of_pos b h1⟩

theorem turnK_neg {b : Int} {n : Nat} (h : 0 < n) (hn : n ≤ 4611686018427387904) (hb : ilt (itmod b (Int.ofNat n)) 0 = true) : wr .i64 (iadd (itmod b (Int.ofNat n)) (Int.ofNat n)) = Int.ofNat (turnK n b) ∧ turnK n b < n := by
  obtain ⟨h1, h2⟩ := tmod_bounds b h
  have h3 : itmod b (Int.ofNat n) < 0 := by simpa [ilt] using hb
  have h4 : turnK n b = (itmod b (Int.ofNat n) + (n : Int)).toNat := by unfold turnK; rw [hb]; rfl
  rw [h4]
  generalize itmod b (Int.ofNat n) = r at h1 h2 h3 ⊢
  refine ⟨?_, by omega⟩
  unfold wr iadd IntKind.wrap
  simp [IntKind.bits, IntKind.signed]
  omega

theorem turnK_pos {b : Int} {n : Nat} (h : 0 < n) (hb : ilt (itmod b (Int.ofNat n)) 0 = false) : itmod b (Int.ofNat n) = Int.ofNat (turnK n b) ∧ turnK n b < n := by
  obtain ⟨h1, h2⟩ := tmod_bounds b h
  have h3 : ¬ itmod b (Int.ofNat n) < 0 := by simpa [ilt] using hb
  have h4 : turnK n b = (itmod b (Int.ofNat n)).toNat := by unfold turnK; rw [hb]; rfl
  rw [h4]
  generalize itmod b (Int.ofNat n) = r at h1 h2 h3 ⊢
  refine ⟨?_, by omega⟩
  simp only [Int.ofNat_eq_natCast]
  omega

theorem turnK_nat {n k : Nat} (h : k < n) : turnK n (Int.ofNat k) = k := by
  unfold turnK
  rw [mod_nat, Nat.mod_eq_of_lt h]
  have : ilt (Int.ofNat k) 0 = false := by simp [ilt]
  rw [this]
  rfl

def lp69 (n : Nat) (f : Nat → E6) (b : Int) : Lp := ⟨[true, false, false, false, false, true, true, true, true, false, false, false, false, false, false, false, false, false, false, false, false, false, false, false, false, false, false, false, false, false, false, false, false, false, false, false, false, false, false], 2, [false, false, false, false, false, true, false, false, false, false, false, false, false, false, false, false, false, false, false, false, false, false, false, false, false, false, false, false, false, false, false, false, false, false, false, false, false, false, false], 2, n + 1⟩
def st69 (n : Nat) (f : Nat → E6) (b : Int) (k : Int) (i : Nat) (x : Nat → V) (j : Nat → V) : St := ⟨[.sl 6 n (fun i => (eV (f i))), j 1, j 2, j 3, j 4, .ref 1, iV (Int.ofNat n), iV k, iV (Int.ofNat i), j 9, j 10, j 11, j 12, j 13, j 14, j 15, j 16, j 17, j 18, j 19, j 20, j 21, j 22, j 23, j 24, j 25, j 26, j 27, j 28, j 29, j 30, j 31, j 32, j 33, j 34, j 35, j 36, j 37, j 38], [.row 38 6 0 (fun _ => .und), .row 38 6 i x]⟩
def en69e (n : Nat) (f : Nat → E6) (b : Int) (k : Int) (i : Nat) (x : Nat → V) : Ex × St := (.ex 0, ⟨[.und, .und, .und, .und, .und, .ref 1, .und, .und, .und, .und, .und, .und, .und, .und, .und, .und, .und, .und, .und, .und, .und, .und, .und, .und, .und, .und, .und, .und, .und, .und, .und, .und, .und, .und, .und, .und, .und, .und, .und], [.row 38 6 0 (fun _ => .und), .row 38 6 i x]⟩)
noncomputable def body69 (L : Nat → (St → T (Ex × St)) → St → T (Ex × St)) : St → T (Ex × St) := fun st => evalC tab ⟨callT tb0, L, Gl⟩ (loopBody Tryz.f72 0) 0 st
theorem rc69e (L : Nat → (St → T (Ex × St)) → St → T (Ex × St)) (n : Nat) (f : Nat → E6) (b : Int) (k : Int) (i : Nat) (x : Nat → V)  (j : Nat → V) (h0 : ilt (Int.ofNat i) (Int.ofNat n) = false) : ((body69 L (st69 n f b k i x j)).bind fun r => T.leaf (cutR (lp69 n f b) r)).sem = some ((.ex 0), ⟨[.und, .und, .und, .und, .und, (.ref 1), .und, .und, .und, .und, .und, .und, .und, .und, .und, .und, .und, .und, .und, .und, .und, .und, .und, .und, .und, .und, .und, .und, .und, .und, .und, .und, .und, .und, .und, .und, .und, .und, .und], [(.row 38 6 0 (fun _ => .und)), (.row 38 6 i x)]⟩) := by
  exact sem_of_path (ds := [false]) (cs := [(ilt (Int.ofNat i) (Int.ofNat n))]) (by kernel_rfl) (by simp only [h0] <;> rfl)
theorem rc69n (L : Nat → (St → T (Ex × St)) → St → T (Ex × St)) (n : Nat) (f : Nat → E6) (b : Int) (k : Int) (i : Nat) (x : Nat → V)  (j : Nat → V) (h0 : ilt (Int.ofNat i) (Int.ofNat n) = true) (h1 : ieq (Int.ofNat n) 0 = false) (h2 : band (ile 0 (itmod (wr IntKind.i64 (iadd k (Int.ofNat i))) (Int.ofNat n))) (ilt (itmod (wr IntKind.i64 (iadd k (Int.ofNat i))) (Int.ofNat n)) (Int.ofNat n)) = true) (h3 : apOK i 1 40 = true) : ((body69 L (st69 n f b k i x j)).bind fun r => T.leaf (cutR (lp69 n f b) r)).sem = some (.nm, ⟨[(.sl 6 n (fun i => (eV (f i)))), .und, .und, .und, .und, (.ref 1), (iV (Int.ofNat n)), (iV k), (iV (wr IntKind.i64 (iadd (Int.ofNat i) 1))), .und, .und, .und, .und, .und, .und, .und, .und, .und, .und, .und, .und, .und, .und, .und, .und, .und, .und, .und, .und, .und, .und, .und, .und, .und, .und, .und, .und, .und, .und], [(.row 38 6 0 (fun _ => .und)), (.row 38 6 (nadd i 1) (pushGet i x (eV (f (toN (itmod (wr IntKind.i64 (iadd k (Int.ofNat i))) (Int.ofNat n)))))))]⟩) := by
  exact sem_of_path (ds := [true, false, true, true]) (cs := [(ilt (Int.ofNat i) (Int.ofNat n)), (ieq (Int.ofNat n) 0), (band (ile 0 (itmod (wr IntKind.i64 (iadd k (Int.ofNat i))) (Int.ofNat n))) (ilt (itmod (wr IntKind.i64 (iadd k (Int.ofNat i))) (Int.ofNat n)) (Int.ofNat n))), (apOK i 1 40)]) (by kernel_rfl) (by simp only [h2] <;> simp only [h0, h1, h3] <;> rfl)

theorem wc69z (L : Nat → (St → T (Ex × St)) → St → T (Ex × St)) (n : Nat) (f : Nat → E6) (b : Int) (h0 : ieq (Int.ofNat n) 0 = true) : (finF (evalF tab ⟨callT tb0, L, Gl⟩ Tryz.f72 [edgesV n f, iV b] [])).sem = some ((.ref 0), [(.row 38 6 0 (fun _ => .und))]) := by
  exact sem_of_path (ds := [true]) (cs := [(ieq (Int.ofNat n) 0)]) (by kernel_rfl) (by simp only [h0] <;> rfl)

def ent69a (n : Nat) (f : Nat → E6) (b : Int)  : St := ⟨[(.sl 6 n (fun i => (eV (f i)))), (iV b), undefV, undefV, (.ref 0), (.ref 1), (iV (Int.ofNat n)), (iV (wr IntKind.i64 (iadd (itmod b (Int.ofNat n)) (Int.ofNat n)))), (iV 0), (.sl 6 n (fun i => (eV (f i)))), (iV (Int.ofNat n)), (iV (Int.ofNat n)), (bV (ieq (Int.ofNat n) 0)), undefV, (iV b), (iV (Int.ofNat n)), (iV (itmod b (Int.ofNat n))), (iV (itmod b (Int.ofNat n))), (bV (ilt (itmod b (Int.ofNat n)) 0)), (iV (itmod b (Int.ofNat n))), (iV (Int.ofNat n)), (iV (wr IntKind.i64 (iadd (itmod b (Int.ofNat n)) (Int.ofNat n)))), undefV, undefV, undefV, undefV, undefV, undefV, undefV, undefV, undefV, undefV, undefV, undefV, undefV, undefV, undefV, undefV, undefV], [(.row 38 6 0 (fun _ => .und)), (.row 38 6 0 (fun _ => .und))]⟩

def ent69b (n : Nat) (f : Nat → E6) (b : Int)  : St := ⟨[(.sl 6 n (fun i => (eV (f i)))), (iV b), undefV, undefV, (.ref 0), (.ref 1), (iV (Int.ofNat n)), (iV (itmod b (Int.ofNat n))), (iV 0), (.sl 6 n (fun i => (eV (f i)))), (iV (Int.ofNat n)), (iV (Int.ofNat n)), (bV (ieq (Int.ofNat n) 0)), undefV, (iV b), (iV (Int.ofNat n)), (iV (itmod b (Int.ofNat n))), (iV (itmod b (Int.ofNat n))), (bV (ilt (itmod b (Int.ofNat n)) 0)), undefV, undefV, undefV, undefV, undefV, undefV, undefV, undefV, undefV, undefV, undefV, undefV, undefV, undefV, undefV, undefV, undefV, undefV, undefV, undefV], [(.row 38 6 0 (fun _ => .und)), (.row 38 6 0 (fun _ => .und))]⟩

theorem wc69a (L : Nat → (St → T (Ex × St)) → St → T (Ex × St)) (p0 : (St → T (Ex × St)) → St → Bool) (n : Nat) (f : Nat → E6) (b : Int) (k : Int) (x : Nat → V) (h0 : ieq (Int.ofNat n) 0 = false) (h1 : ilt (itmod b (Int.ofNat n)) 0 = true) (hp0 : p0 (body69 (onP 0 p0 (en69e n f b k n x) L)) (ent69a n f b) = true) : (finF (evalF tab ⟨callT tb0, (onP 0 p0 (en69e n f b k n x) L), Gl⟩ Tryz.f72 [edgesV n f, iV b] [])).sem = some ((.ref 0), [(.row 38 6 n x)]) := by
  exact sem_of_path (ds := [false, false, true, true]) (cs := [(ieq (Int.ofNat n) 0), (ieq (Int.ofNat n) 0), (ilt (itmod b (Int.ofNat n)) 0), (p0 (body69 (onP 0 p0 (en69e n f b k n x) L)) (ent69a n f b))]) (by kernel_rfl) (by simp only [hp0] <;> simp only [h0, h1] <;> rfl)

theorem wc69b (L : Nat → (St → T (Ex × St)) → St → T (Ex × St)) (p0 : (St → T (Ex × St)) → St → Bool) (n : Nat) (f : Nat → E6) (b : Int) (k : Int) (x : Nat → V) (h0 : ieq (Int.ofNat n) 0 = false) (h1 : ilt (itmod b (Int.ofNat n)) 0 = false) (hp0 : p0 (body69 (onP 0 p0 (en69e n f b k n x) L)) (ent69b n f b) = true) : (finF (evalF tab ⟨callT tb0, (onP 0 p0 (en69e n f b k n x) L), Gl⟩ Tryz.f72 [edgesV n f, iV b] [])).sem = some ((.ref 0), [(.row 38 6 n x)]) := by
  exact sem_of_path (ds := [false, false, false, true]) (cs := [(ieq (Int.ofNat n) 0), (ieq (Int.ofNat n) 0), (ilt (itmod b (Int.ofNat n)) 0), (p0 (body69 (onP 0 p0 (en69e n f b k n x) L)) (ent69b n f b))]) (by kernel_rfl) (by simp only [hp0] <;> simp only [h0, h1] <;> rfl)

theorem run69 (L : Nat → (St → T (Ex × St)) → St → T (Ex × St)) (n : Nat) (f : Nat → E6) (b : Int) (K : Nat) (hK : K < n) (h8 : n * 40 ≤ 140737488355328) : ∀ (d i : Nat) (j : Nat → V) (q : Nat), n = i + d → d < q →
    (iterT (body69 L) (lp69 n f b) q (st69 n f b (Int.ofNat K) i (pushN (fun i => eV (f ((K + i) % n))) i) j)).sem = some (en69e n f b (Int.ofNat K) n (pushN (fun i => eV (f ((K + i) % n))) n))
  | 0, i, j, q + 1, h, _ => by
    have : n = i := by omega
    subst this
    exact iter_round (rc69e L n f b (Int.ofNat K) n (pushN (fun i => eV (f ((K + i) % n))) n) j (ofNat_ge (Nat.le_refl _)))
  | d + 1, i, j, q + 1, h, h2 => by
    have hl : i < n := by omega
    have h9 : (i + 1) * 40 ≤ 140737488355328 := Nat.le_trans (Nat.mul_le_mul_right 40 hl) h8
    have ha : apOK i 1 40 = true := decide_eq_true h9
    have e1 : itmod (wr IntKind.i64 (iadd (Int.ofNat K) (Int.ofNat i))) (Int.ofNat n) = Int.ofNat ((K + i) % n) := by rw [wr_add (by omega), mod_nat]
    have hb : band (ile 0 (itmod (wr IntKind.i64 (iadd (Int.ofNat K) (Int.ofNat i))) (Int.ofNat n))) (ilt (itmod (wr IntKind.i64 (iadd (Int.ofNat K) (Int.ofNat i))) (Int.ofNat n)) (Int.ofNat n)) = true := by
      rw [e1]; exact ofNat_in (Nat.mod_lt _ (by omega))
    rw [iter_round (rc69n L n f b (Int.ofNat K) i (pushN (fun i => eV (f ((K + i) % n))) i) j (ofNat_lt hl) (ne_0u hl) hb ha), goOn_nm, succ_wr hl (by omega), e1, show toN (Int.ofNat ((K + i) % n)) = (K + i) % n from rfl]
    exact run69 L n f b K hK h8 d (i + 1) (fun _ => .und) q (by omega) (by omega)

def turnedT : List V → T (V × List Blk)
  | [v, .val (.int .i64 b)] => apL v fun n f => .br (fitN n) (.leaf (.ref 0, [.row 38 6 n fun i => eV (turnE n f b i)])) .fail
  | _ => .fail

theorem ent69a_eq (n : Nat) (f : Nat → E6) (b : Int) (g : Nat → V) : ent69a n f b = st69 n f b (wr IntKind.i64 (iadd (itmod b (Int.ofNat n)) (Int.ofNat n))) 0 (pushN g 0) (fun i => nth (ent69a n f b).t i) := by kernel_rfl
theorem ent69b_eq (n : Nat) (f : Nat → E6) (b : Int) (g : Nat → V) : ent69b n f b = st69 n f b (itmod b (Int.ofNat n)) 0 (pushN g 0) (fun i => nth (ent69b n f b).t i) := by kernel_rfl

theorem p69 : PureC Tryz.prog Gl 72 turnedT := by
  refine pureC_intro tabOK mixed Tryz.func72 (by kernel_rfl) (by kernel_rfl) fun vs v h' h => ?_
  unfold turnedT at h
  split at h
  · rename_i u b
    obtain ⟨n, f, ha, h1⟩ := apL_some h
    obtain ⟨hn, hq⟩ := sem_br_fail h1
    have := sem_leaf hq
    simp only [Prod.mk.injEq] at this
    obtain ⟨rfl, rfl⟩ := this
    have h8 : n * 40 ≤ 140737488355328 := of_decide_eq_true hn
    have hA : ArgLE [u, .val (.int .i64 b)] [edgesV n f, iV b] := fun S w cs hv => by
      obtain ⟨c, l, rfl, q1, q2⟩ := hv
      exact ⟨c, l, rfl, ha S w c q1, q2⟩
    have hx := cx_ok tb0_ok [(0, lp69 n f b)]
    have hL := loopsBy_le [(0, lp69 n f b)]
    cases n with
    | zero => exact ⟨_, cxOf Gl tb0 [(0, lp69 0 f b)], _, hA, rfl, hx.1, hx.2, wc69z _ 0 f b rfl, RowsLE.one fun j hj => absurd hj (Nat.not_lt_zero _)⟩
    | succ m =>
      have hm : m + 1 ≤ 4611686018427387904 := by omega
      have h0 : 0 < m + 1 := Nat.succ_pos m
      have hz : ieq (Int.ofNat (m + 1)) 0 = false := ne_0u h0
      have fin : ∀ K, K = turnK (m + 1) b → RowsLE [Blk.row 38 6 (m + 1) (pushN (fun i => eV (f ((K + i) % (m + 1)))) (m + 1))] [Blk.row 38 6 (m + 1) fun i => eV (turnE (m + 1) f b i)] := fun K hK => RowsLE.one fun j hj => by
        rw [pushN_eq _ _ j hj, hK]
        rfl
      cases hb : ilt (itmod b (Int.ofNat (m + 1))) 0 with
      | true =>
        obtain ⟨e1, e2⟩ := turnK_neg h0 hm hb
        have hr : ∀ L, (loopsBy [(0, lp69 (m + 1) f b)] 0 (body69 L) (ent69a (m + 1) f b)).sem = some (en69e (m + 1) f b (Int.ofNat (turnK (m + 1) b)) (m + 1) (pushN (fun i => eV (f ((turnK (m + 1) b + i) % (m + 1)))) (m + 1))) := fun L => by
          show (iterT (body69 L) (lp69 (m + 1) f b) (m + 2) (ent69a (m + 1) f b)).sem = _
          rw [ent69a_eq (m + 1) f b (fun i => eV (f ((turnK (m + 1) b + i) % (m + 1)))), e1]
          exact run69 L (m + 1) f b _ e2 h8 (m + 1) 0 _ (m + 2) (by omega) (by omega)
        exact ⟨_, cxOf Gl tb0 [(0, lp69 (m + 1) f b)], _, hA, rfl, hx.1, hx.2, told_le (onP_le hL hL) _ (wc69a _ _ (m + 1) f b _ _ hz hb (isP_true (hr _))), fin _ rfl⟩
      | false =>
        obtain ⟨e1, e2⟩ := turnK_pos h0 hb
        have hr : ∀ L, (loopsBy [(0, lp69 (m + 1) f b)] 0 (body69 L) (ent69b (m + 1) f b)).sem = some (en69e (m + 1) f b (Int.ofNat (turnK (m + 1) b)) (m + 1) (pushN (fun i => eV (f ((turnK (m + 1) b + i) % (m + 1)))) (m + 1))) := fun L => by
          show (iterT (body69 L) (lp69 (m + 1) f b) (m + 2) (ent69b (m + 1) f b)).sem = _
          rw [ent69b_eq (m + 1) f b (fun i => eV (f ((turnK (m + 1) b + i) % (m + 1)))), e1]
          exact run69 L (m + 1) f b _ e2 h8 (m + 1) 0 _ (m + 2) (by omega) (by omega)
        exact ⟨_, cxOf Gl tb0 [(0, lp69 (m + 1) f b)], _, hA, rfl, hx.1, hx.2, told_le (onP_le hL hL) _ (wc69b _ _ (m + 1) f b _ _ hz hb (isP_true (hr _))), fin _ rfl⟩
  · cases h

/-! ### A cycle's turned ones are cycles -/


end Go.Proofs.YtkcbdemfmjciiaaGreatDoor.Ed




