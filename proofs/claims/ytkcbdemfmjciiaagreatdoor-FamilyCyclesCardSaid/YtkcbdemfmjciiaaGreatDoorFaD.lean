/-
  What must come; the laws FamilyOf and FamilyBares as functions. Conditions: the listed variables read as listed.
-/
import Derived.Test.YtkcbdemfmjciiaaGreatDoorFaC
namespace Go.Proofs.YtkcbdemfmjciiaaGreatDoor.Fa
open Go.Sy Go Go.Proofs.YtkcbdemfmjciiaaGreatDoor.Ed


/-! ### What must come, whatever the arguments are -/

noncomputable def tb14f : List (Nat × (List V → T (V × List Blk))) := (11, psT) :: (12, nameTT) :: []
theorem tb14f_ok : AllPure Tryz.prog Gl tb14f := .cons p41 <| .cons q11 .nil

theorem awk1 : fitN (psN [80, 111, 100, 87, 82, 32, 70, 114, 101, 32, 77, 70, 101, 110, 99, 101, 100, 87, 82, 32, 70, 114, 101]) = true := by kernel_rfl
theorem awk2 : ieq (nameE 1 (psN [80, 111, 100, 87, 82, 32, 70, 114, 101, 32, 77, 70, 101, 110, 99, 101, 100, 87, 82, 32, 70, 114, 101]) (fun i => (psG [80, 111, 100, 87, 82, 32, 70, 114, 101, 32, 77, 70, 101, 110, 99, 101, 100, 87, 82, 32, 70, 114, 101] i))) 0 = true := by kernel_rfl
theorem awk3 : seq (nameT 1 (psN [80, 111, 100, 87, 82, 32, 70, 114, 101, 32, 77, 70, 101, 110, 99, 101, 100, 87, 82, 32, 70, 114, 101]) (fun i => (psG [80, 111, 100, 87, 82, 32, 70, 114, 101, 32, 77, 70, 101, 110, 99, 101, 100, 87, 82, 32, 70, 114, 101] i))) [83, 66, 43, 70, 114, 101, 43, 80, 111, 100, 87, 82, 43, 70, 114, 101, 43, 77, 70, 101, 110, 99, 101, 100, 87, 82] = true := by kernel_rfl

theorem wf14 (L : Nat → (St → T (Ex × St)) → St → T (Ex × St)) (u : Nat) (h23 : fitN (psN [80, 111, 100, 87, 82, 32, 70, 114, 101, 32, 77, 70, 101, 110, 99, 101, 100, 87, 82, 32, 70, 114, 101]) = true) (h24 : ieq (nameE 1 (psN [80, 111, 100, 87, 82, 32, 70, 114, 101, 32, 77, 70, 101, 110, 99, 101, 100, 87, 82, 32, 70, 114, 101]) (fun i => (psG [80, 111, 100, 87, 82, 32, 70, 114, 101, 32, 77, 70, 101, 110, 99, 101, 100, 87, 82, 32, 70, 114, 101] i))) 0 = true) : (finF (evalF tab ⟨callT tb14f, L, Gl⟩ Tryz.f7 [] [])).sem = some ((bV (seq (nameT 1 (psN [80, 111, 100, 87, 82, 32, 70, 114, 101, 32, 77, 70, 101, 110, 99, 101, 100, 87, 82, 32, 70, 114, 101]) (fun i => (psG [80, 111, 100, 87, 82, 32, 70, 114, 101, 32, 77, 70, 101, 110, 99, 101, 100, 87, 82, 32, 70, 114, 101] i))) [83, 66, 43, 70, 114, 101, 43, 80, 111, 100, 87, 82, 43, 70, 114, 101, 43, 77, 70, 101, 110, 99, 101, 100, 87, 82])), []) := by
  exact sem_of_path (ds := [true, true, true, true, true]) (cs := [(allN (psN [80, 111, 100, 87, 82, 32, 70, 114, 101, 32, 77, 70, 101, 110, 99, 101, 100, 87, 82, 32, 70, 114, 101]) (fun _ => Bool.true)), (fitN (psN [80, 111, 100, 87, 82, 32, 70, 114, 101, 32, 77, 70, 101, 110, 99, 101, 100, 87, 82, 32, 70, 114, 101])), (ieq (nameE 1 (psN [80, 111, 100, 87, 82, 32, 70, 114, 101, 32, 77, 70, 101, 110, 99, 101, 100, 87, 82, 32, 70, 114, 101]) (fun i => (psG [80, 111, 100, 87, 82, 32, 70, 114, 101, 32, 77, 70, 101, 110, 99, 101, 100, 87, 82, 32, 70, 114, 101] i))) 0), (ieq (nameE 1 (psN [80, 111, 100, 87, 82, 32, 70, 114, 101, 32, 77, 70, 101, 110, 99, 101, 100, 87, 82, 32, 70, 114, 101]) (fun i => (psG [80, 111, 100, 87, 82, 32, 70, 114, 101, 32, 77, 70, 101, 110, 99, 101, 100, 87, 82, 32, 70, 114, 101] i))) 0), (ieq (nameE 1 (psN [80, 111, 100, 87, 82, 32, 70, 114, 101, 32, 77, 70, 101, 110, 99, 101, 100, 87, 82, 32, 70, 114, 101]) (fun i => (psG [80, 111, 100, 87, 82, 32, 70, 114, 101, 32, 77, 70, 101, 110, 99, 101, 100, 87, 82, 32, 70, 114, 101] i))) 0)]) (by kernel_rfl) (by simp only [h23, h24, allN_true] <;> rfl)

theorem q14 : PureC Tryz.prog Gl 7 (unitT (bV true)) := by
  refine pureC_intro tabOK mixed Tryz.func7 (by kernel_rfl) (by kernel_rfl) fun vs v h' h => ?_
  unfold unitT at h
  split at h
  · have := sem_leaf h
    simp only [Prod.mk.injEq] at this
    obtain ⟨rfl, rfl⟩ := this
    have hx := cx_ok tb14f_ok []
    have hw := wf14 (loopsBy []) 0 awk1 awk2
    rw [awk3] at hw
    exact ⟨_, cxOf Gl tb14f [], _, ArgLE.refl _, rfl, hx.1, hx.2, hw, RowsLE.refl _⟩
  · cases h

/-! ### The laws -/

theorem seq_rfl (l : List UInt8) : seq l l = true := by simp [seq]

theorem famQ_congr {n : Nat} {f g : Nat → E6} (h : ∀ i, i < n → g i = f i) (b : Nat) : famQ n g b = famQ n f b := sameC_congr fun i hi => by rw [h i hi]
theorem famO_congr {n : Nat} {f g : Nat → E6} (h : ∀ i, i < n → g i = f i) : famO n g = famO n f := by
  unfold famO
  rw [show famQ n g = famQ n f from funext (famQ_congr h)]
theorem famT_congr {n : Nat} {f g : Nat → E6} (h : ∀ i, i < n → g i = f i) : famT n g = famT n f := by
  unfold famT
  rw [famO_congr h, mayN_cong h]
theorem famE_congr {n : Nat} {f g : Nat → E6} (h : ∀ i, i < n → g i = f i) : famE n g = famE n f := by
  unfold famE
  rw [famO_congr h, mayN_cong h]
theorem nmX_congr {n : Nat} {f g : Nat → E6} (h : ∀ i, i < n → g i = f i) (hm : mayN n f = true) : ∀ i, i ≤ n → nmX n g i = nmX n f i
  | 0, _ => by
    show headT n g = headT n f
    unfold headT
    rw [famT_congr h, famE_congr h]
  | i + 1, hi => by
    rw [nmX, nmX, nmX_congr h hm i (by omega), can_ref hm h i (by omega), can_ref hm (fun _ _ => rfl) i (by omega)]
theorem chkE_congr {a : Int} {n : Nat} {f g : Nat → E6} (h : ∀ i, i < n → g i = f i) : chkE a n g = chkE a n f := by
  unfold chkE
  rw [chkR_congr h]
theorem nameE_congr {a : Int} {n : Nat} {f g : Nat → E6} (h : ∀ i, i < n → g i = f i) : nameE a n g = nameE a n f := chkE_congr h
theorem nameT_congr {a : Int} {n : Nat} {f g : Nat → E6} (h : ∀ i, i < n → g i = f i) : nameT a n g = nameT a n f := by
  unfold nameT
  rw [chkE_congr h]
  cases hc : ieq (chkE a n f) 0 with
  | true => exact nmX_congr h (isCycle_of hc).may n (Nat.le_refl _)
  | false => rfl

theorem fit_smallF {n : Nat} (h : fitN n = true) : smallN n = true := decide_eq_true (fit_small h)

end Go.Proofs.YtkcbdemfmjciiaaGreatDoor.Fa

