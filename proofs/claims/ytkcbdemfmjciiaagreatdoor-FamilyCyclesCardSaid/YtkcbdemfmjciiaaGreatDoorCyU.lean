/-
  The law CycleChecks as a function. No conditions.
-/
import Derived.Test.YtkcbdemfmjciiaaGreatDoorCyT
import Derived.Test.YtkcbdemfmjciiaaGreatDoorCyS
import Derived.Test.YtkcbdemfmjciiaaGreatDoorCyUa
namespace Go.Proofs.YtkcbdemfmjciiaaGreatDoor.Ed
open Go.Sy

/-! ### What Check answers hangs on the edges alone -/

theorem edgR_congr {a : Int} {n : Nat} {f g : Nat → E6} (h : ∀ i, i < n → g i = f i) : edgR a n g = edgR a n f := by
  have h1 : firstQ (badL a g) n 0 = firstQ (badL a f) n 0 := firstQ_congr n 0 fun k _ h2 => by unfold badL; rw [h k (by omega)]
  have h2 : firstQ (badM n g) n 0 = firstQ (badM n f) n 0 := firstQ_congr n 0 fun k _ h2 => by unfold badM; rw [h k (by omega), h ((k + 1) % n) (Nat.mod_lt _ (by omega))]
  unfold edgR
  rw [h1, h2]
  cases hc : firstQ (badL a f) n 0 with
  | some t =>
    have := firstQ_some hc
    simp only [h t (by omega)]
  | none => rfl

theorem crR_congr {n : Nat} {l : Nat → Int} {c d : Nat → Bool} {q : Int} (h : ∀ i, i < n → d i = c i) : crR n l d q = crR n l c q := by
  unfold crR
  rw [firstQ_congr (q := tooMany n l d q) (p := tooMany n l c q) n 0 fun k _ hk => by
    unfold tooMany cntK
    rw [h k (by omega), cntB_congr (q := cntP l d (l k)) (p := cntP l c (l k)) n fun i hi => by unfold cntP; rw [h i hi]]]

theorem chkK_congr {a : Int} {n : Nat} {f g : Nat → E6} (h : ∀ i, i < n → g i = f i) : chkK a n g = chkK a n f := by
  have ho : ∀ i, i < n → (fun k => outB (g k)) i = (fun k => outB (f k)) i := fun i hi => congrArg outB (h i hi)
  have hm : ∀ i, i < n → (fun k => movB (g k)) i = (fun k => movB (f k)) i := fun i hi => congrArg movB (h i hi)
  have hw : ∀ i, i < n → (fun k => isW (g k)) i = (fun k => isW (f k)) i := fun i hi => congrArg isW (h i hi)
  have e1 : cntO n g = cntO n f := by unfold cntO; rw [cntB_congr n ho]
  have e2 : cntM n g = cntM n f := by unfold cntM; rw [cntB_congr n hm]
  have e3 : chkU n g = chkU n f := by
    unfold chkU
    rw [partF_congr hm, partF_congr ho, crR_congr hw]
  unfold chkK chkS
  rw [edgR_congr h, e1, e2, e3]

theorem chkR_congr {a : Int} {n : Nat} {f g : Nat → E6} (h : ∀ i, i < n → g i = f i) : chkR a n g = chkR a n f := by
  unfold chkR
  rw [chkK_congr h]

/-! ### The law -/

def chkE (a : Int) (n : Nat) (f : Nat → E6) : Int := (chkR a n f).1
def chkI (a : Int) (n : Nat) (f : Nat → E6) : Int := (chkR a n f).2

end Go.Proofs.YtkcbdemfmjciiaaGreatDoor.Ed



namespace Go.Proofs.YtkcbdemfmjciiaaGreatDoor.Ed
open Go.Sy

theorem firstQ_none {q : Nat → Bool} : ∀ {d i : Nat}, firstQ q d i = none ↔ ∀ k, i ≤ k → k < i + d → q k = false
  | 0, i => ⟨fun _ k h1 h2 => by omega, fun _ => rfl⟩
  | d + 1, i => by
    cases hq : q i with
    | true =>
      rw [firstQ_t hq]
      refine ⟨fun h => (by cases h), fun h => ?_⟩
      have := h i (Nat.le_refl i) (by omega)
      rw [hq] at this
      cases this
    | false =>
      rw [firstQ_f hq, firstQ_none]
      refine ⟨fun h k h1 h2 => ?_, fun h k h1 h2 => h k (by omega) (by omega)⟩
      by_cases e : k = i
      · rw [e]; exact hq
      · exact h k (by omega) (by omega)

structure IsCycle (a : Int) (n : Nat) (f : Nat → E6) : Prop where
  arch : ieq a 1 = true ∨ ieq a 2 = true
  lo : 2 ≤ n
  hi : n ≤ 16
  legal : ∀ i, i < n → badL a f i = false
  meets : ∀ i, i < n → badM n f i = false
  outer : 2 ≤ cntB (fun k => outB (f k)) n
  moves : 2 ≤ cntB (fun k => movB (f k)) n
  writes : ∀ i, i < n → tooMany n (partF (fun k => movB (f k)) n) (fun i => isW (f i)) 2 i = false
  crowd : ∀ i, i < n → tooMany n (partF (fun k => outB (f k)) n) (fun _ => true) 12 i = false

theorem crR_false {n : Nat} {l : Nat → Int} {c : Nat → Bool} {q : Int} (h : (crR n l c q).2 = false) : ∀ i, i < n → tooMany n l c q i = false := by
  unfold crR at h
  cases hc : firstQ (tooMany n l c q) n 0 with
  | some t => rw [hc] at h; cases h
  | none => exact fun i hi => firstQ_none.1 hc i (Nat.zero_le i) (by omega)

theorem isCycle_of {a : Int} {n : Nat} {f : Nat → E6} (h : ieq (chkE a n f) 0 = true) : IsCycle a n f := by
  have h := ieq_eq h
  unfold chkE at h
  have ha : ieq a 1 = true ∨ ieq a 2 = true := by
    cases ca : ieq a 1 with
    | true => exact .inl rfl
    | false =>
      cases cb : ieq a 2 with
      | true => exact .inr rfl
      | false =>
        unfold chkR at h
        rw [ca, cb] at h
        cases h
  rw [chkR_eq ha] at h
  unfold chkK at h
  cases c1 : ilt (Int.ofNat n) 2 with
  | true => rw [c1] at h; cases h
  | false =>
    cases c2 : ilt 16 (Int.ofNat n) with
    | true => rw [c1, c2] at h; cases h
    | false =>
      rw [c1, c2] at h
      have h : (match edgR a n f, ieq (edgR a n f).1 0 with | r, false => r | _, true => chkS n f).1 = 0 := h
      cases c3 : ieq (edgR a n f).1 0 with
      | false =>
        rw [c3] at h
        have h : (edgR a n f).1 = 0 := h
        rw [h] at c3
        cases c3
      | true =>
        rw [c3] at h
        have h : (chkS n f).1 = 0 := h
        have c3 := ieq_eq c3
        unfold chkS at h
        cases c4 : ilt (cntO n f) 2 with
        | true => rw [c4] at h; cases h
        | false =>
          cases c5 : ilt (cntM n f) 2 with
          | true => rw [c4, c5] at h; cases h
          | false =>
            rw [c4, c5] at h
            have h : (chkU n f).1 = 0 := h
            unfold chkU at h
            cases c6 : (crR n (partF (fun k => movB (f k)) n) (fun i => isW (f i)) 2).2 with
            | true =>
              rw [show crR n (partF (fun k => movB (f k)) n) (fun i => isW (f i)) 2 = ((crR n (partF (fun k => movB (f k)) n) (fun i => isW (f i)) 2).1, true) from Prod.ext rfl c6] at h
              cases h
            | false =>
              rw [show crR n (partF (fun k => movB (f k)) n) (fun i => isW (f i)) 2 = ((crR n (partF (fun k => movB (f k)) n) (fun i => isW (f i)) 2).1, false) from Prod.ext rfl c6] at h
              cases c7 : (crR n (partF (fun k => outB (f k)) n) (fun _ => true) 12).2 with
              | true =>
                rw [show crR n (partF (fun k => outB (f k)) n) (fun _ => true) 12 = ((crR n (partF (fun k => outB (f k)) n) (fun _ => true) 12).1, true) from Prod.ext rfl c7] at h
                cases h
              | false =>
                have e1 : firstQ (badL a f) n 0 = none ∧ firstQ (badM n f) n 0 = none := by
                  unfold edgR at c3
                  cases d1 : firstQ (badL a f) n 0 with
                  | some t =>
                    rw [d1] at c3
                    cases d2 : ieq (legF a (f t)) 0 with
                    | true => simp only [d2] at c3; cases c3
                    | false => simp only [d2] at c3; cases c3
                  | none =>
                    rw [d1] at c3
                    cases d2 : firstQ (badM n f) n 0 with
                    | some t => rw [d2] at c3; cases c3
                    | none => exact ⟨rfl, rfl⟩
                rw [show (2 : Int) = Int.ofNat 2 from rfl, ilt_nat] at c1
                rw [show (16 : Int) = Int.ofNat 16 from rfl, ilt_nat] at c2
                unfold cntO at c4
                rw [show (2 : Int) = Int.ofNat 2 from rfl, ilt_nat] at c4
                unfold cntM at c5
                rw [show (2 : Int) = Int.ofNat 2 from rfl, ilt_nat] at c5
                have c1 := of_decide_eq_false c1
                have c2 := of_decide_eq_false c2
                have c4 := of_decide_eq_false c4
                have c5 := of_decide_eq_false c5
                exact ⟨ha, by omega, by omega, fun i hi => firstQ_none.1 e1.1 i (Nat.zero_le i) (by omega), fun i hi => firstQ_none.1 e1.2 i (Nat.zero_le i) (by omega), by omega, by omega, crR_false c6, crR_false c7⟩

theorem IsCycle.may {a : Int} {n : Nat} {f : Nat → E6} (h : IsCycle a n f) : mayN n f = true := mayN_iff.2 fun i hi => by
  have h1 := h.legal i hi
  unfold badL at h1
  cases c : ieq (legF a (f i)) 0 with
  | false => rw [c] at h1; cases h1
  | true =>
    have c := ieq_eq c
    rcases h.arch with ha | ha
    · rw [ieq_eq ha] at c; exact c
    · rw [ieq_eq ha] at c; exact c

/-! ### The law -/

def lp18 (a : Int) (n : Nat) (f : Nat → E6) (b : Int) : Lp := ⟨[false, true, false, false, false, false, true, false, false, false, false, false, false, false, true, false, false, false, false, false, false, false, false, false, true, false, false, false, false, false, false, false, false, false, false, false, false, false, false, false, false, false, false, false, false, false, false, false, false, false, false, false, false, false, false, false, false, false, false, false, false, false, false, false, false, false, false, false, false, false, false, false, false, false, false, false, false, false, false, false, false, false, false, false, false, false, false, false, false, false, false, false, false, false, false, false, false, false, false, false, false, false, false, false, false, false, false, false, false, false, false, false, false, false, false, false, false, false, false, false, false, false, false, false, false, false, false, false, false, false, false, false, false, false, false, false, false, false, false], 4, [false, false, false, false, false, false, true, false, false, false, false, false, false, false, false, false, false, false, false, false, false, false, false, false, false, false, false, false, false, false, false, false, false, false, false, false, false, false, false, false, false, false, false, false, false, false, false, false, false, false, false, false, false, false, false, false, false, false, false, false, false, false, false, false, false, false, false, false, false, false, false, false, false, false, false, false, false, false, false, false, false, false, false, false, false, false, false, false, false, false, false, false, false, false, false, false, false, false, false, false, false, false, false, false, false, false, false, false, false, false, false, false, false, false, false, false, false, false, false, false, false, false, false, false, false, false, false, false, false, false, false, false, false, false, false, false, false, false, false], 0, n + 1⟩
def st18 (a : Int) (n : Nat) (f : Nat → E6) (b : Int) (u v w z : Nat → E6) (m : Nat) (j : Nat → V) : St := ⟨[j 0, .sl 6 n (fun i => (eV (f i))), j 2, j 3, j 4, j 5, bV false, j 7, j 8, j 9, j 10, j 11, j 12, j 13, .ref 1, j 15, j 16, j 17, j 18, j 19, j 20, j 21, j 22, j 23, iV (Int.ofNat m), j 25, j 26, j 27, j 28, j 29, j 30, j 31, j 32, j 33, j 34, j 35, j 36, j 37, j 38, j 39, j 40, j 41, j 42, j 43, j 44, j 45, j 46, j 47, j 48, j 49, j 50, j 51, j 52, j 53, j 54, j 55, j 56, j 57, j 58, j 59, j 60, j 61, j 62, j 63, j 64, j 65, j 66, j 67, j 68, j 69, j 70, j 71, j 72, j 73, j 74, j 75, j 76, j 77, j 78, j 79, j 80, j 81, j 82, j 83, j 84, j 85, j 86, j 87, j 88, j 89, j 90, j 91, j 92, j 93, j 94, j 95, j 96, j 97, j 98, j 99, j 100, j 101, j 102, j 103, j 104, j 105, j 106, j 107, j 108, j 109, j 110, j 111, j 112, j 113, j 114, j 115, j 116, j 117, j 118, j 119, j 120, j 121, j 122, j 123, j 124, j 125, j 126, j 127, j 128, j 129, j 130, j 131, j 132, j 133, j 134, j 135, j 136, j 137, j 138], [.row 38 6 n (fun i => eV (u i)), .row 38 6 n (fun i => eV (v i)), .row 38 6 n (fun i => eV (w i)), .row 38 6 n (fun i => eV (z i))]⟩
end Go.Proofs.YtkcbdemfmjciiaaGreatDoor.Ed




