/-
  Layer 3: how lists of numbers stand: a total order. No conditions.
-/
import Derived.Test.YtcaljjnadbpacaaDoorEdK
import Derived.Test.YtcaljjnadbpacaaDoorSyR
namespace Go.Proofs.YtcaljjnadbpacaaDoor.Ed
open Go.Sy

/-- How two lists of numbers stand. -/
def cmpL : List Int → List Int → Int
  | [], [] => 0
  | [], _ :: _ => -1
  | _ :: _, [] => 1
  | a :: x, b :: y => sel (ilt a b) (-1) (sel (ilt b a) 1 (cmpL x y))

theorem ilt_iff {a b : Int} : ilt a b = true ↔ a < b := by simp [ilt]

theorem cmpL_cons (a b : Int) (x y : List Int) : (a < b ∧ cmpL (a :: x) (b :: y) = -1) ∨ (b < a ∧ cmpL (a :: x) (b :: y) = 1) ∨ (a = b ∧ cmpL (a :: x) (b :: y) = cmpL x y) := by
  have h0 : cmpL (a :: x) (b :: y) = sel (ilt a b) (-1) (sel (ilt b a) 1 (cmpL x y)) := rfl
  rw [h0]
  cases h1 : ilt a b with
  | true => exact .inl ⟨ilt_iff.1 h1, rfl⟩
  | false =>
    have h1' : ¬ a < b := fun h => by rw [ilt_iff.2 h] at h1; cases h1
    cases h2 : ilt b a with
    | true => exact .inr (.inl ⟨ilt_iff.1 h2, rfl⟩)
    | false =>
      have h2' : ¬ b < a := fun h => by rw [ilt_iff.2 h] at h2; cases h2
      exact .inr (.inr ⟨by omega, rfl⟩)

theorem cmpL_rng : ∀ x y, cmpL x y = -1 ∨ cmpL x y = 0 ∨ cmpL x y = 1
  | [], [] => .inr (.inl rfl)
  | [], _ :: _ => .inl rfl
  | _ :: _, [] => .inr (.inr rfl)
  | a :: x, b :: y => by
    rcases cmpL_cons a b x y with ⟨_, h⟩ | ⟨_, h⟩ | ⟨_, h⟩
    · exact .inl h
    · exact .inr (.inr h)
    · rw [h]; exact cmpL_rng x y

theorem cmpL_swap : ∀ x y, cmpL y x = - cmpL x y
  | [], [] => rfl
  | [], _ :: _ => rfl
  | _ :: _, [] => rfl
  | a :: x, b :: y => by
    have ih := cmpL_swap x y
    rcases cmpL_cons a b x y with ⟨h1, h⟩ | ⟨h1, h⟩ | ⟨h1, h⟩ <;> rcases cmpL_cons b a y x with ⟨g1, g⟩ | ⟨g1, g⟩ | ⟨g1, g⟩ <;> omega

theorem cmpL_zero : ∀ x y, cmpL x y = 0 ↔ x = y
  | [], [] => by simp [cmpL]
  | [], _ :: _ => by simp [cmpL]
  | _ :: _, [] => by simp [cmpL]
  | a :: x, b :: y => by
    have ih := cmpL_zero x y
    rcases cmpL_cons a b x y with ⟨h1, h⟩ | ⟨h1, h⟩ | ⟨h1, h⟩
    · rw [h]; simp; omega
    · rw [h]; simp; omega
    · rw [h, ih]; simp [h1]

theorem cmpL_trans : ∀ x y z, cmpL x y ≤ 0 → cmpL y z ≤ 0 → cmpL x z ≤ 0
  | [], [], _, _, h => h
  | [], _ :: _, [], _, _ => by simp [cmpL]
  | [], _ :: _, _ :: _, _, _ => by simp [cmpL]
  | _ :: _, [], _, h, _ => by simp [cmpL] at h
  | _ :: _, _ :: _, [], _, h => by simp [cmpL] at h
  | a :: x, b :: y, c :: z, h, g => by
    have ih := cmpL_trans x y z
    rcases cmpL_cons a b x y with ⟨h1, h2⟩ | ⟨h1, h2⟩ | ⟨h1, h2⟩ <;> rcases cmpL_cons b c y z with ⟨g1, g2⟩ | ⟨g1, g2⟩ | ⟨g1, g2⟩ <;> rcases cmpL_cons a c x z with ⟨k1, k2⟩ | ⟨k1, k2⟩ | ⟨k1, k2⟩ <;>
      first | omega | (rw [k2]; exact ih (by omega) (by omega))

/-- The numbers of some edges, from the i-th on. -/
def codesL (n : Nat) (f : Nat → E6) : List Int := (List.range n).map fun i => codeN (f i)

theorem codesL_drop (n i : Nat) (f : Nat → E6) (h : i < n) : (codesL n f).drop i = codeN (f i) :: (codesL n f).drop (i + 1) := by
  have hl : i < (codesL n f).length := by simp [codesL, h]
  rw [List.drop_eq_getElem_cons hl]
  simp [codesL]

theorem codesL_end (n i : Nat) (f : Nat → E6) (h : n ≤ i) : (codesL n f).drop i = [] := by
  rw [List.drop_eq_nil_iff]
  simp [codesL, h]

/-- May all of them be? -/
def mayN (n : Nat) (f : Nat → E6) : Bool := allN n fun i => ieq (codeF (f i)) 0

def cmpF (n : Nat) (f : Nat → E6) (m : Nat) (g : Nat → E6) : Int := sel (band (mayN n f) (mayN m g)) 0 30
def cmpN (n : Nat) (f : Nat → E6) (m : Nat) (g : Nat → E6) : Int := sel (band (mayN n f) (mayN m g)) (cmpL (codesL n f) (codesL m g)) 0

theorem mayN_iff {n : Nat} {f : Nat → E6} : mayN n f = true ↔ ∀ i, i < n → codeF (f i) = 0 := by
  unfold mayN
  rw [allN_iff]
  simp [ieq]

/-- The same edges just if the same numbers. -/
theorem eqFrom_iff (f g : Nat → E6) : ∀ d i, eqFrom f g d i = true ↔ ∀ j, i ≤ j → j < i + d → f j = g j
  | 0, i => by
    simp only [eqFrom, true_iff]
    intro j h1 h2; omega
  | d + 1, i => by
    unfold eqFrom
    cases h : eqE (f i) (g i) with
    | true =>
      have h0 := (eqE_iff _ _).1 h
      show eqFrom f g d (i + 1) = true ↔ _
      rw [eqFrom_iff f g d (i + 1)]
      constructor
      · intro q j h1 h2
        by_cases hj : j = i
        · subst hj; exact h0
        · exact q j (by omega) (by omega)
      · intro q j h1 h2; exact q j (by omega) (by omega)
    | false =>
      constructor
      · intro q; cases q
      · intro q
        have := (eqE_iff _ _).2 (q i (Nat.le_refl _) (by omega))
        rw [this] at h; cases h

theorem codeN_inj {a b : E6} (ha : codeF a = 0) (hb : codeF b = 0) (h : codeN a = codeN b) : a = b := by
  rcases codeF_cases a with ⟨k, _, _, h1, h2, _⟩ | ⟨h1, _⟩
  · rcases codeF_cases b with ⟨j, _, _, g1, g2, _⟩ | ⟨g1, _⟩
    · rw [h1, g1] at h
      have := Int.ofNat.inj h
      subst this
      rw [← h2, ← g2]
    · rw [g1] at hb; cases hb
  · rw [h1] at ha; cases ha

theorem sameB_iff {n m : Nat} {f g : Nat → E6} (hf : mayN n f = true) (hg : mayN m g = true) : sameB n f m g = true ↔ codesL n f = codesL m g := by
  have hf := mayN_iff.1 hf
  have hg := mayN_iff.1 hg
  unfold sameB
  cases hc : ieq (Int.ofNat n) (Int.ofNat m) with
  | false =>
    have : n ≠ m := by
      intro h; subst h; simp [ieq] at hc
    constructor
    · intro h; cases h
    · intro h
      have := congrArg List.length h
      simp [codesL] at this
      contradiction
  | true =>
    have hm : n = m := Int.ofNat.inj (by simpa only [ieq, beq_iff_eq] using hc)
    subst hm
    show eqFrom f g n 0 = true ↔ _
    rw [eqFrom_iff]
    constructor
    · intro h
      unfold codesL
      refine List.map_congr_left fun j hj => ?_
      rw [h j (Nat.zero_le _) (by simpa using hj)]
    · intro h j _ hj
      have hj : j < n := by omega
      have := congrArg (·[j]?) h
      simp [codesL, hj] at this
      exact codeN_inj (hf j hj) (hg j hj) this

theorem sameB_self (n : Nat) (f : Nat → E6) : sameB n f n f = true := by
  unfold sameB
  rw [ieq_self]
  exact (eqFrom_iff f f n 0).2 fun _ _ _ => rfl

end Go.Proofs.YtcaljjnadbpacaaDoor.Ed
