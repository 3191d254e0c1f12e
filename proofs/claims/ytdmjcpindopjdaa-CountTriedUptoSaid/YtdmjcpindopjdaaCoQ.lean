/-
  Layer 5: the law CountMatrix as a function. No conditions.
-/
import Derived.Test.YtdmjcpindopjdaaCoP
namespace Go.Proofs.Ytdmjcpindopjdaa.Co
open Go.Sy

noncomputable def tbQ : List (Nat × (List V → T (V × List Blk))) := [(11, copyT), (14, sameT), (12, matT), (13, matT), (15, unitT (bV true))]
theorem tbQ_ok : AllPure Try.prog Gl tbQ := .cons p37 <| .cons p36 <| .cons p12 <| .cons p13 <| .cons p15 .nil

theorem way3f_p (L : Nat → (St → T (Ex × St)) → St → T (Ex × St)) (n : Nat) (f : Nat → E6) : (finF (evalF tab ⟨callT tbQ, L, Gl⟩ Try.f3 [edgesV n f] [])).path [true, true, true, true, true, true, true, true, true, true, true, true, true, true, true, true, true, true, true] = some ([(allN n (fun _ => Bool.true)), (fitN n), (allN n (fun _ => Bool.true)), (ilt 128 (Int.ofNat n)), (allN n (fun _ => Bool.true)), (ilt 128 (Int.ofNat n)), (band (band (ieq 0 0) (band (ieq 0 0) Bool.true)) (band (band (ieq 0 0) (band (ieq 0 0) Bool.true)) Bool.true)), (band (band (ieq 0 0) (band (ieq 0 0) Bool.true)) (band (band (ieq 0 0) (band (ieq 0 0) Bool.true)) Bool.true)), (band (band (ieq 0 0) (band (ieq 0 0) Bool.true)) (band (band (ieq 0 0) (band (ieq 0 0) Bool.true)) Bool.true)), (band (band (ieq 0 0) (band (ieq 0 0) Bool.true)) (band (band (ieq 0 0) (band (ieq 0 0) Bool.true)) Bool.true)), (ieq 2 2), (ieq 2 2), (ieq 2 2), (allN n (fun _ => Bool.true)), (allN n (fun _ => Bool.true)), (smallN n), (ieq 2 2), (sameB n f n f), (sameB n f n f)], ((bV Bool.true), [])) := by kernel_rfl
theorem way3f (L : Nat → (St → T (Ex × St)) → St → T (Ex × St)) (n : Nat) (f : Nat → E6) (h0 : fitN n = true) (h3 : ilt 128 (Int.ofNat n) = true) (h1 : smallN n = true) (h2 : sameB n f n f = true) : (finF (evalF tab ⟨callT tbQ, L, Gl⟩ Try.f3 [edgesV n f] [])).sem = some ((bV Bool.true), []) := by
  exact sem_of_path (way3f_p L n f) (by simp only [h0, h3, h1, h2, allN_true] <;> rfl)

theorem way3a_p (L : Nat → (St → T (Ex × St)) → St → T (Ex × St)) (n : Nat) (f : Nat → E6) : (finF (evalF tab ⟨callT tbQ, L, Gl⟩ Try.f3 [edgesV n f] [])).path [true, true, true, false, true, true, false, true, true, true, true, true, true, true, true, true, true, true, true, true, true] = some ([(allN n (fun _ => Bool.true)), (fitN n), (allN n (fun _ => Bool.true)), (ilt 128 (Int.ofNat n)), (mayN n f), (allN n (fun _ => Bool.true)), (ilt 128 (Int.ofNat n)), (mayN n f), (band (band (ieq (matN n f 0) (matN n f 0)) (band (ieq (matN n f 1) (matN n f 1)) Bool.true)) (band (band (ieq (matN n f 2) (matN n f 2)) (band (ieq (matN n f 3) (matN n f 3)) Bool.true)) Bool.true)), (band (band (ieq (matN n f 0) (matN n f 0)) (band (ieq (matN n f 1) (matN n f 1)) Bool.true)) (band (band (ieq (matN n f 2) (matN n f 2)) (band (ieq (matN n f 3) (matN n f 3)) Bool.true)) Bool.true)), (band (band (ieq (matN n f 0) (matN n f 0)) (band (ieq (matN n f 1) (matN n f 1)) Bool.true)) (band (band (ieq (matN n f 2) (matN n f 2)) (band (ieq (matN n f 3) (matN n f 3)) Bool.true)) Bool.true)), (band (band (ieq (matN n f 0) (matN n f 0)) (band (ieq (matN n f 1) (matN n f 1)) Bool.true)) (band (band (ieq (matN n f 2) (matN n f 2)) (band (ieq (matN n f 3) (matN n f 3)) Bool.true)) Bool.true)), (ieq 0 0), (ieq 0 0), (ieq 0 0), (allN n (fun _ => Bool.true)), (allN n (fun _ => Bool.true)), (smallN n), (ieq 0 0), (sameB n f n f), (sameB n f n f)], ((bV Bool.true), [])) := by kernel_rfl
theorem way3a (L : Nat → (St → T (Ex × St)) → St → T (Ex × St)) (n : Nat) (f : Nat → E6) (h0 : fitN n = true) (h7 : ilt 128 (Int.ofNat n) = false) (h8 : mayN n f = true) (h3 : ieq (matN n f 0) (matN n f 0) = true) (h4 : ieq (matN n f 1) (matN n f 1) = true) (h5 : ieq (matN n f 2) (matN n f 2) = true) (h6 : ieq (matN n f 3) (matN n f 3) = true) (h1 : smallN n = true) (h2 : sameB n f n f = true) : (finF (evalF tab ⟨callT tbQ, L, Gl⟩ Try.f3 [edgesV n f] [])).sem = some ((bV Bool.true), []) := by
  exact sem_of_path (way3a_p L n f) (by simp only [h0, h7, h8, h3, h4, h5, h6, h1, h2, allN_true] <;> rfl)

theorem way3e_p (L : Nat → (St → T (Ex × St)) → St → T (Ex × St)) (n : Nat) (f : Nat → E6) : (finF (evalF tab ⟨callT tbQ, L, Gl⟩ Try.f3 [edgesV n f] [])).path [true, true, true, false, false, true, false, false, true, true, true, true, true, true, true, true, true, true, true, true, true] = some ([(allN n (fun _ => Bool.true)), (fitN n), (allN n (fun _ => Bool.true)), (ilt 128 (Int.ofNat n)), (mayN n f), (allN n (fun _ => Bool.true)), (ilt 128 (Int.ofNat n)), (mayN n f), (band (band (ieq 0 0) (band (ieq 0 0) Bool.true)) (band (band (ieq 0 0) (band (ieq 0 0) Bool.true)) Bool.true)), (band (band (ieq 0 0) (band (ieq 0 0) Bool.true)) (band (band (ieq 0 0) (band (ieq 0 0) Bool.true)) Bool.true)), (band (band (ieq 0 0) (band (ieq 0 0) Bool.true)) (band (band (ieq 0 0) (band (ieq 0 0) Bool.true)) Bool.true)), (band (band (ieq 0 0) (band (ieq 0 0) Bool.true)) (band (band (ieq 0 0) (band (ieq 0 0) Bool.true)) Bool.true)), (ieq 30 30), (ieq 30 30), (ieq 30 30), (allN n (fun _ => Bool.true)), (allN n (fun _ => Bool.true)), (smallN n), (ieq 30 30), (sameB n f n f), (sameB n f n f)], ((bV Bool.true), [])) := by kernel_rfl
theorem way3e (L : Nat → (St → T (Ex × St)) → St → T (Ex × St)) (n : Nat) (f : Nat → E6) (h0 : fitN n = true) (h3 : ilt 128 (Int.ofNat n) = false) (h4 : mayN n f = false) (h1 : smallN n = true) (h2 : sameB n f n f = true) : (finF (evalF tab ⟨callT tbQ, L, Gl⟩ Try.f3 [edgesV n f] [])).sem = some ((bV Bool.true), []) := by
  exact sem_of_path (way3e_p L n f) (by simp only [h0, h3, h4, h1, h2, allN_true] <;> rfl)

theorem eqFrom_self (f : Nat → E6) : ∀ d i, eqFrom f f d i = true
  | 0, _ => rfl
  | d + 1, i => by
    unfold eqFrom
    rw [eqE_self]
    exact eqFrom_self f d (i + 1)

theorem sameB_self (n : Nat) (f : Nat → E6) : sameB n f n f = true := by
  unfold sameB
  rw [ieq_self]
  exact eqFrom_self f n 0

theorem fit_small {n : Nat} (hn : fitN n = true) : smallN n = true := by
  have hn : n * 40 ≤ 140737488355328 := of_decide_eq_true hn
  exact decide_eq_true (by omega)

def law3T : List V → T (V × List Blk) := apL1 fun n _ => .br (fitN n) (out (bV true)) .fail

theorem p3 : PureC Try.prog Gl 3 law3T := by
  refine pureC_intro tabOK mixed Try.func3 (by kernel_rfl) (by kernel_rfl) fun vs v h' h => ?_
  obtain ⟨n, f, ha, hq⟩ := apL1_some h
  obtain ⟨hn, hq⟩ := sem_br_fail hq
  have := sem_leaf hq
  simp only [Prod.mk.injEq] at this
  obtain ⟨rfl, rfl⟩ := this
  have hx := cx_ok tbQ_ok []
  refine ⟨_, cxOf Gl tbQ [], [], ha, rfl, hx.1, hx.2, ?_, RowsLE.refl _⟩
  rcases many n with ⟨h1, _⟩ | ⟨h1, _⟩
  · exact way3f _ n f hn h1 (fit_small hn) (sameB_self n f)
  · cases hm : mayN n f with
    | true => exact way3a _ n f hn h1 hm (ieq_self _) (ieq_self _) (ieq_self _) (ieq_self _) (fit_small hn) (sameB_self n f)
    | false => exact way3e _ n f hn h1 hm (fit_small hn) (sameB_self n f)

theorem apL_sem {α : Type} (n : Nat) (f : Nat → E6) (F : Nat → (Nat → E6) → T α) : (apL (edgesV n f) F).sem = (F n f).sem := by
  show sel (allN n fun i => okE (eV (f i))) (F n f).sem none = _
  rw [show (allN n fun i => okE (eV (f i))) = true from allN_iff.2 fun _ _ => rfl]
  rfl

theorem law3_sem {n : Nat} (f : Nat → E6) (hn : n * 40 ≤ 140737488355328) : (law3T [edgesV n f]).sem = some (bV true, []) := by
  unfold law3T apL1
  show (apL (edgesV n f) _).sem = _
  rw [apL_sem]
  have hn : fitN n = true := decide_eq_true hn
  simp only [hn]
  rfl

end Go.Proofs.Ytdmjcpindopjdaa.Co
