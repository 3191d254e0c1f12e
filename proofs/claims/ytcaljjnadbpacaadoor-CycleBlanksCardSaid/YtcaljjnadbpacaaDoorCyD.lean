/-
  Layer 4: Threads and Locs: the part of each edge. No conditions.
-/
import Derived.Test.YtcaljjnadbpacaaDoorCyC
namespace Go.Proofs.YtcaljjnadbpacaaDoor.Ed
open Go.Sy

noncomputable def tb51 : List (Nat × (List V → T (V × List Blk))) := [(97, mayT), (92, partsT)]
theorem tb51_ok : AllPure Tryd.prog Gl tb51 := .cons p97 <| .cons p92 .nil

def placesT (g : Nat → (Nat → E6) → Nat → Int) : List V → T (V × List Blk) := apL1 fun n f => .br (smallN n) (match mayN n f with
  | true => .br (mkOK 8 (Int.ofNat n) (Int.ofNat n)) (.leaf (.tup [.ref 0, iV 0], [.row 3 1 n fun k => iV (g n f k)])) .fail
  | false => .leaf (.tup [.ref 0, iV 30], [.row 3 1 0 fun _ => .und])) .fail

theorem w51t_p (L : Nat → (St → T (Ex × St)) → St → T (Ex × St)) (n : Nat) (f : Nat → E6) : (finF (evalF tab ⟨callT tb51, L, Gl⟩ Tryd.f51 [edgesV n f] [])).path [true, true, false, true, true] = some ([(allN n (fun _ => Bool.true)), (smallN n), (bnot (mayN n f)), (allN n (fun _ => Bool.true)), (mkOK 8 (Int.ofNat n) (Int.ofNat n))], ((.tup [(.ref 0), (iV 0)]), [(.row 3 1 n (fun k => (iV (partF (fun k => outB (f k)) n k))))])) := by kernel_rfl
theorem w51t (L : Nat → (St → T (Ex × St)) → St → T (Ex × St)) (n : Nat) (f : Nat → E6) (h0 : smallN n = true) (h1 : mayN n f = true) (h2 : mkOK 8 (Int.ofNat n) (Int.ofNat n) = true) : (finF (evalF tab ⟨callT tb51, L, Gl⟩ Tryd.f51 [edgesV n f] [])).sem = some ((.tup [(.ref 0), (iV 0)]), [(.row 3 1 n (fun k => (iV (partF (fun k => outB (f k)) n k))))]) := by
  exact sem_of_path (w51t_p L n f) (by simp only [h0, h1, h2, allN_true] <;> rfl)

theorem w51f_p (L : Nat → (St → T (Ex × St)) → St → T (Ex × St)) (n : Nat) (f : Nat → E6) : (finF (evalF tab ⟨callT tb51, L, Gl⟩ Tryd.f51 [edgesV n f] [])).path [true, true, true] = some ([(allN n (fun _ => Bool.true)), (smallN n), (bnot (mayN n f))], ((.tup [(.ref 0), (iV 30)]), [(.row 3 1 0 (fun _ => .und))])) := by kernel_rfl
theorem w51f (L : Nat → (St → T (Ex × St)) → St → T (Ex × St)) (n : Nat) (f : Nat → E6) (h0 : smallN n = true) (h1 : mayN n f = false) : (finF (evalF tab ⟨callT tb51, L, Gl⟩ Tryd.f51 [edgesV n f] [])).sem = some ((.tup [(.ref 0), (iV 30)]), [(.row 3 1 0 (fun _ => .und))]) := by
  exact sem_of_path (w51f_p L n f) (by simp only [h0, h1, allN_true] <;> rfl)
theorem w52t_p (L : Nat → (St → T (Ex × St)) → St → T (Ex × St)) (n : Nat) (f : Nat → E6) : (finF (evalF tab ⟨callT tb51, L, Gl⟩ Tryd.f52 [edgesV n f] [])).path [true, true, false, true, true] = some ([(allN n (fun _ => Bool.true)), (smallN n), (bnot (mayN n f)), (allN n (fun _ => Bool.true)), (mkOK 8 (Int.ofNat n) (Int.ofNat n))], ((.tup [(.ref 0), (iV 0)]), [(.row 3 1 n (fun k => (iV (partF (fun k => movB (f k)) n k))))])) := by kernel_rfl
theorem w52t (L : Nat → (St → T (Ex × St)) → St → T (Ex × St)) (n : Nat) (f : Nat → E6) (h0 : smallN n = true) (h1 : mayN n f = true) (h2 : mkOK 8 (Int.ofNat n) (Int.ofNat n) = true) : (finF (evalF tab ⟨callT tb51, L, Gl⟩ Tryd.f52 [edgesV n f] [])).sem = some ((.tup [(.ref 0), (iV 0)]), [(.row 3 1 n (fun k => (iV (partF (fun k => movB (f k)) n k))))]) := by
  exact sem_of_path (w52t_p L n f) (by simp only [h0, h1, h2, allN_true] <;> rfl)

theorem w52f_p (L : Nat → (St → T (Ex × St)) → St → T (Ex × St)) (n : Nat) (f : Nat → E6) : (finF (evalF tab ⟨callT tb51, L, Gl⟩ Tryd.f52 [edgesV n f] [])).path [true, true, true] = some ([(allN n (fun _ => Bool.true)), (smallN n), (bnot (mayN n f))], ((.tup [(.ref 0), (iV 30)]), [(.row 3 1 0 (fun _ => .und))])) := by kernel_rfl
theorem w52f (L : Nat → (St → T (Ex × St)) → St → T (Ex × St)) (n : Nat) (f : Nat → E6) (h0 : smallN n = true) (h1 : mayN n f = false) : (finF (evalF tab ⟨callT tb51, L, Gl⟩ Tryd.f52 [edgesV n f] [])).sem = some ((.tup [(.ref 0), (iV 30)]), [(.row 3 1 0 (fun _ => .und))]) := by
  exact sem_of_path (w52f_p L n f) (by simp only [h0, h1, allN_true] <;> rfl)

theorem p51 : PureC Tryd.prog Gl 51 (placesT fun n f => partF (fun k => outB (f k)) n) := by
  refine pureC_intro tabOK mixed Tryd.func51 (by kernel_rfl) (by kernel_rfl) fun vs v h' h => ?_
  obtain ⟨n, f, ha, h1⟩ := apL1_some h
  obtain ⟨hn, hq⟩ := sem_br_fail h1
  clear h h1
  have hx := cx_ok tb51_ok []
  cases hm : mayN n f with
  | true =>
    rw [hm] at hq
    obtain ⟨hk, hq2⟩ := sem_br_fail hq
    have := sem_leaf hq2
    simp only [Prod.mk.injEq] at this
    obtain ⟨rfl, rfl⟩ := this
    exact ⟨_, cxOf Gl tb51 [], _, ha, rfl, hx.1, hx.2, w51t _ n f hn hm hk, RowsLE.refl _⟩
  | false =>
    rw [hm] at hq
    have := sem_leaf hq
    simp only [Prod.mk.injEq] at this
    obtain ⟨rfl, rfl⟩ := this
    exact ⟨_, cxOf Gl tb51 [], _, ha, rfl, hx.1, hx.2, w51f _ n f hn hm, RowsLE.refl _⟩

theorem p52 : PureC Tryd.prog Gl 52 (placesT fun n f => partF (fun k => movB (f k)) n) := by
  refine pureC_intro tabOK mixed Tryd.func52 (by kernel_rfl) (by kernel_rfl) fun vs v h' h => ?_
  obtain ⟨n, f, ha, h1⟩ := apL1_some h
  obtain ⟨hn, hq⟩ := sem_br_fail h1
  clear h h1
  have hx := cx_ok tb51_ok []
  cases hm : mayN n f with
  | true =>
    rw [hm] at hq
    obtain ⟨hk, hq2⟩ := sem_br_fail hq
    have := sem_leaf hq2
    simp only [Prod.mk.injEq] at this
    obtain ⟨rfl, rfl⟩ := this
    exact ⟨_, cxOf Gl tb51 [], _, ha, rfl, hx.1, hx.2, w52t _ n f hn hm hk, RowsLE.refl _⟩
  | false =>
    rw [hm] at hq
    have := sem_leaf hq
    simp only [Prod.mk.injEq] at this
    obtain ⟨rfl, rfl⟩ := this
    exact ⟨_, cxOf Gl tb51 [], _, ha, rfl, hx.1, hx.2, w52f _ n f hn hm, RowsLE.refl _⟩

end Go.Proofs.YtcaljjnadbpacaaDoor.Ed
