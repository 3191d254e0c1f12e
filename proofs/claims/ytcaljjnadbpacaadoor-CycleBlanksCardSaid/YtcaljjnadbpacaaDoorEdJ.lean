/-
  Layer 3: all edges of an architecture; the law EdgeLegal as a function. No conditions.
-/
import Derived.Test.YtcaljjnadbpacaaDoorEdI
namespace Go.Proofs.YtcaljjnadbpacaaDoor.Ed
open Go.Sy

noncomputable def all34 (a : Int) : Option (V × List Blk) := (finF (evalF tab cx8 Tryd.f34 [iV a] [])).sem
noncomputable def all35 (a : Int) : Option (V × List Blk) := (finF (evalF tab cx8 Tryd.f35 [iV a] [])).sem

theorem all35a : (finF (evalF tab cx8 Tryd.f35 [iV 1] [])).sem = some (.tup [.ref 0, iV 0], [.row 23 6 22 (rowG (all35 1))]) := by kernel_rfl
theorem all35b : (finF (evalF tab cx8 Tryd.f35 [iV 2] [])).sem = some (.tup [.ref 0, iV 0], [.row 23 6 104 (rowG (all35 2))]) := by kernel_rfl
theorem row34a : (List.range 22).map (fun j => eV (allE 1 j)) = (List.range 22).map fun j => rowG (all34 1) j := by kernel_rfl
theorem row34b : (List.range 104).map (fun j => eV (allE 2 j)) = (List.range 104).map fun j => rowG (all34 2) j := by kernel_rfl
theorem row35a : (List.range 22).map (fun j => eV (allE 1 j)) = (List.range 22).map fun j => rowG (all35 1) j := by kernel_rfl
theorem row35b : (List.range 104).map (fun j => eV (allE 2 j)) = (List.range 104).map fun j => rowG (all35 2) j := by kernel_rfl
theorem all34n (a : Int) : (finF (evalF tab cx8 Tryd.f34 [iV a] [])).path [true] = some ([bnot (knownB a)], (.tup [.ref 0, iV 1], [.row 23 6 0 fun _ => .und])) := by kernel_rfl
theorem all35n (a : Int) : (finF (evalF tab cx8 Tryd.f35 [iV a] [])).path [true] = some ([bnot (knownB a)], (.tup [.ref 0, iV 1], [.row 23 6 0 fun _ => .und])) := by kernel_rfl

theorem allT_some {vs : List V} {r : V × List Blk} (h : (allT vs).sem = some r) : ∃ a, vs = [iV a] ∧ ((a = 1 ∧ r = (.tup [.ref 0, iV 0], [.row 23 6 22 fun i => eV (allE 1 i)])) ∨ (a = 2 ∧ r = (.tup [.ref 0, iV 0], [.row 23 6 104 fun i => eV (allE 2 i)])) ∨
    (bnot (knownB a) = true ∧ r = (.tup [.ref 0, iV 1], [.row 23 6 0 fun _ => .und]))) := by
  obtain ⟨a, rfl, h⟩ := ap1_some gI_ok h
  refine ⟨a, rfl, ?_⟩
  have h : sel (ieq a 1) (some _) (sel (ieq a 2) (some _) (some _)) = some r := h
  cases h1 : ieq a 1 with
  | true =>
    rw [h1] at h
    have h : some _ = some r := h
    exact .inl ⟨by simpa [ieq] using h1, (Option.some.inj h).symm⟩
  | false =>
    rw [h1] at h
    cases h2 : ieq a 2 with
    | true =>
      rw [h2] at h
      have h : some _ = some r := h
      exact .inr (.inl ⟨by simpa [ieq] using h2, (Option.some.inj h).symm⟩)
    | false =>
      rw [h2] at h
      have h : some _ = some r := h
      exact .inr (.inr ⟨by simp [knownB, h1, h2, bnot, bor], (Option.some.inj h).symm⟩)

theorem p34 : PureC Tryd.prog Gl 34 allT := by
  refine pureC_intro tabOK mixed Tryd.func34 (by kernel_rfl) (by kernel_rfl) fun vs v h' h => ?_
  have hx := cx_ok tb8_ok [(0, ⟨[], 2, [], 2, 113⟩)]
  obtain ⟨a, rfl, ⟨rfl, hr⟩ | ⟨rfl, hr⟩ | ⟨ha, hr⟩⟩ := allT_some h
  · cases hr
    exact ⟨_, cx8, _, ArgLE.refl _, rfl, hx.1, hx.2, all34a, RowsLE.one fun j hj => all_below row34a j hj⟩
  · cases hr
    exact ⟨_, cx8, _, ArgLE.refl _, rfl, hx.1, hx.2, all34b, RowsLE.one fun j hj => all_below row34b j hj⟩
  · cases hr
    exact ⟨_, cx8, _, ArgLE.refl _, rfl, hx.1, hx.2, sem_of_path (all34n a) (by rw [ha]), RowsLE.refl _⟩

theorem p35 : PureC Tryd.prog Gl 35 allT := by
  refine pureC_intro tabOK mixed Tryd.func35 (by kernel_rfl) (by kernel_rfl) fun vs v h' h => ?_
  have hx := cx_ok tb8_ok [(0, ⟨[], 2, [], 2, 113⟩)]
  obtain ⟨a, rfl, ⟨rfl, hr⟩ | ⟨rfl, hr⟩ | ⟨ha, hr⟩⟩ := allT_some h
  · cases hr
    exact ⟨_, cx8, _, ArgLE.refl _, rfl, hx.1, hx.2, all35a, RowsLE.one fun j hj => all_below row35a j hj⟩
  · cases hr
    exact ⟨_, cx8, _, ArgLE.refl _, rfl, hx.1, hx.2, all35b, RowsLE.one fun j hj => all_below row35b j hj⟩
  · cases hr
    exact ⟨_, cx8, _, ArgLE.refl _, rfl, hx.1, hx.2, sem_of_path (all35n a) (by rw [ha]), RowsLE.refl _⟩

noncomputable def tb10 : List (Nat × (List V → T (V × List Blk))) := (34, allT) :: (35, allT) :: (36, sameT) :: (37, copyT) :: (32, ap2 gI toE fun a e => out (legP a e)) :: (33, ap2 gI toE fun a e => out (legP a e)) :: tb8
theorem tb10_ok : AllPure Tryd.prog Gl tb10 := .cons p34 <| .cons p35 <| .cons p36 <| .cons p37 <| .cons p32 <| .cons p33 tb8_ok

end Go.Proofs.YtcaljjnadbpacaaDoor.Ed
