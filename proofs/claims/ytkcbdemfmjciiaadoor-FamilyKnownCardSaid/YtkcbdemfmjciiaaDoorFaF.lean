/-
  Facts about the families, each by the kernel. Conditions: the listed variables read as listed.
-/
import Derived.Test.YtkcbdemfmjciiaaDoorFaD
namespace Go.Proofs.YtkcbdemfmjciiaaDoor.Fa
open Go.Sy Go Go.Proofs.YtkcbdemfmjciiaaDoor.Ed

theorem bareF_len : (List.range 25).all (fun b => Nat.ble (psN (bareS b)) 100) = true := by kernel_rfl
theorem bareF_le {b : Nat} (h : b < 25) : psN (bareS b) ≤ 100 := Nat.le_of_ble_eq_true (List.all_eq_true.1 bareF_len b (List.mem_range.2 h))

theorem known_all : (List.range 25).all (fun k => isFam (famS k) && Nat.beq (famK (famS k)) k) = true := by kernel_rfl
theorem check_all : (List.range 25).all (fun k => ieq (chkE 1 (psN (bareS k)) (fun i => psG (bareS k) i)) 0 && ieq (chkE 2 (psN (bareS k)) (fun i => psG (bareS k) i)) 0) = true := by kernel_rfl
theorem of_all : (List.range 25).all (fun k => match famO (psN (bareS k)) (fun i => psG (bareS k) i) with | some j => Nat.beq j k | none => false) = true := by kernel_rfl
theorem fence_all : (List.range 11).all (fun w => (List.range 2).all fun a => (List.range 2).all fun b => ieq (codeF ⟨5, false, false, Int.ofNat (a + 1), Int.ofNat (b + 1), Int.ofNat (w + 1)⟩) 0) = true := by kernel_rfl
theorem apart_all : (List.range 25).all (fun i => (List.range i).all fun j => !seq (famS i) (famS j)) = true := by kernel_rfl

theorem known_fam {k : Nat} (h : k < 25) : isFam (famS k) = true ∧ famK (famS k) = k := by
  have := List.all_eq_true.1 known_all k (List.mem_range.2 h)
  simp only [Bool.and_eq_true] at this
  exact ⟨this.1, Nat.eq_of_beq_eq_true this.2⟩
theorem check_fam {k : Nat} (h : k < 25) : ieq (chkE 1 (psN (bareS k)) (fun i => psG (bareS k) i)) 0 = true ∧ ieq (chkE 2 (psN (bareS k)) (fun i => psG (bareS k) i)) 0 = true := by
  have := List.all_eq_true.1 check_all k (List.mem_range.2 h)
  simpa only [Bool.and_eq_true] using this
theorem of_fam {k : Nat} (h : k < 25) : famO (psN (bareS k)) (fun i => psG (bareS k) i) = some k := by
  have := List.all_eq_true.1 of_all k (List.mem_range.2 h)
  split at this
  · rename_i j hj
    rw [hj, Nat.eq_of_beq_eq_true this]
  · cases this

/-- A family is told of turned ones alike. -/
theorem famQ_turned {n k : Nat} {f g : Nat → E6} (hk : k < n) (h : ∀ i, i < n → g i = f ((k + i) % n)) (b : Nat) : famQ n g b = famQ n f b := by
  unfold famQ sameC sameTB
  have hl := least_turned (n := n) (h := fun i => codeN (plE (f i))) (g := fun i => codeN (plE (g i))) (k := k) (by omega) fun i hi => by show codeN (plE (g i)) = codeN (plE (f ((k + i) % n))); rw [h i hi]
  cases ieq (Int.ofNat n) (Int.ofNat (psN (bareS b))) with
  | false => rfl
  | true =>
    show ieq (cmpI n _ _ _) 0 = ieq (cmpI n _ _ _) 0
    rw [Bool.eq_iff_iff]
    simp only [ieq, beq_iff_eq]
    rw [cmpI_zero, cmpI_zero]
    exact ⟨fun ⟨h1, h2⟩ => ⟨h1, fun i hi => (hl i hi).symm.trans (h2 i hi)⟩, fun ⟨h1, h2⟩ => ⟨h1, fun i hi => (hl i hi).trans (h2 i hi)⟩⟩
end Go.Proofs.YtkcbdemfmjciiaaDoor.Fa
