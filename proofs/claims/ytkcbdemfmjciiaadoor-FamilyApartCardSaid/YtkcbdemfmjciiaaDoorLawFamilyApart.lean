/-
  The law FamilyApart: its row and its card, out of what its function answers (the frame by program: mklaw.py). Condition: the listed variables read as listed, tied by the card.
-/
import Derived.Test.YtkcbdemfmjciiaaDoorFaP
namespace Go.Proofs.YtkcbdemfmjciiaaDoor.lawFamilyApart
open Go.ChangeShapes Go.WideShapes Go.ChangeAt Go.RowKit Go.Sy Go.Proofs.YtkcbdemfmjciiaaDoor.Ed Go.Proofs.YtkcbdemfmjciiaaDoor.Fa
set_option maxRecDepth 100000

theorem contract (H : Type) (enc : TypeId × Value → H) (W : World) (base : Nat) (args : Array Value) (ds gs : List (DataW H)) (before : List MemPlace)
    (hval : ∀ (j : Nat) t v, Tryd.f7.params[j]? = some t → args[j]? = some v → Value.okWide Tryd.prog W .any base t v)
    (hW : DataW.Whole enc Tryd.prog Tryd.f7.params.toList Rows.familyApartSpec.vars false W args.toList ds gs before) (hL : laidMetH Tryd.prog Rows.familyApartRow.laid W) (hsh : W.ShapedOpen Tryd.prog)
    (hsz : (DataW.weightsEach Tryd.prog Tryd.f7.params.toList ds).all (· ≤ reachBytes) = true) :
    Calls Tryd.prog 7 args W fun e W' => ∃ v, e = .returned v ∧ Rows.familyApartSpec.post enc Tryd.prog Tryd.f7 false true false false W args v W' := by
  have hW' := hW
  obtain ⟨p, q, hA0, hV, rfl, hfz, hnd⟩ := hW
  have hA : DataW.TrodAll enc Tryd.prog W 0 (fun _ => true) true Tryd.f7.params.toList args.toList ds p := hA0
  rw [Tryd.params7] at hA hval hsz
  obtain ⟨v0, vs0, d0, ds0, p0, q0, hargs, rfl, rfl, h0, r0⟩ := trodAll_cons hA
  obtain ⟨v1, vs1, d1, ds1, p1, q1, rfl, rfl, rfl, h1, r1⟩ := trodAll_cons r0
  obtain ⟨v2, vs2, d2, ds2, p2, q2, rfl, rfl, rfl, h2, r2⟩ := trodAll_cons r1
  obtain ⟨rfl, rfl, rfl⟩ := trodAll_nil r2
  obtain rfl : args = #[v0, v1, v2] := by cases args; simp_all
  obtain ⟨rfl, rfl⟩ := trodVars_none hV
  have lt0 : ∀ x ∈ p0, x.block < W.heap.size := by obtain ⟨m, hm⟩ := h0; exact DataW.trod_lt m _ _ _ hm
  have lt1 : ∀ x ∈ p1, x.block < W.heap.size := by obtain ⟨m, hm⟩ := h1; exact DataW.trod_lt m _ _ _ hm
  have lt2 : ∀ x ∈ p2, x.block < W.heap.size := by obtain ⟨m, hm⟩ := h2; exact DataW.trod_lt m _ _ _ hm
  obtain ⟨a0, u0⟩ := reads_int (hval 0 3 v0 rfl rfl) h0
  obtain ⟨n1, a1, u1, s1⟩ := reads_edges (hval 1 22 v1 rfl rfl) h1
  have z1 : n1 * 40 ≤ reachBytes := by
    rcases s1 with rfl | ⟨els, rest, rfl, rfl⟩
    · exact Nat.le_trans (Nat.le_of_eq (Nat.zero_mul _)) (Nat.zero_le _)
    · have h1 := sized_slice hsz (j := 1) (t := 22) (e := 43) rfl rfl Tryd.underlying22
      have h2 : Tryd.prog.bytesOf 43 = 40 := by kernel_rfl
      rw [h2] at h1
      omega
  obtain ⟨n2, a2, u2, s2⟩ := reads_edges (hval 2 22 v2 rfl rfl) h2
  have z2 : n2 * 40 ≤ reachBytes := by
    rcases s2 with rfl | ⟨els, rest, rfl, rfl⟩
    · exact Nat.le_trans (Nat.le_of_eq (Nat.zero_mul _)) (Nat.zero_le _)
    · have h1 := sized_slice hsz (j := 2) (t := 22) (e := 43) rfl rfl Tryd.underlying22
      have h2 : Tryd.prog.bytesOf 43 = 40 := by kernel_rfl
      rw [h2] at h1
      omega
  obtain ⟨mm, hE⟩ := env_max (envA hL) hsh
  have he : ∃ h', (law7T [iV a0, .sl 6 n1 fun i => eV (a1 i), .sl 6 n2 fun i => eV (a2 i)]).sem = some (bV true, h') := ⟨[], law7_sem a1 a2 z1 z2⟩
  obtain ⟨h', he⟩ := he
  have hv : VRs (Live W) W [iV a0, .sl 6 n1 fun i => eV (a1 i), .sl 6 n2 fun i => eV (a2 i)] noK [v0, v1, v2] := ⟨_, _, rfl, u0, ⟨_, _, rfl, u1, ⟨_, _, rfl, u2, rfl⟩⟩⟩
  have walk := walk_of_pure (p7 mm) hE hv he
  refine walk.mono fun e W' ⟨he, bel⟩ => ?_
  subst he
  exact ⟨_, rfl, _, _, _, [], _, [], hW', trodAll_mk1 (shut_bool Tryd.underlying4 _), (trodAll_cons_mk (Below.trod laidOut (by kernel_rfl) (of_decide_eq_true (by kernel_rfl)) h0 bel lt0) (trodAll_cons_mk (Below.trod laidOut (by kernel_rfl) (of_decide_eq_true (by kernel_rfl)) h1 bel lt1) (trodAll_cons_mk (Below.trod laidOut (by kernel_rfl) (of_decide_eq_true (by kernel_rfl)) h2 bel lt2) trodAll_mk0))), rfl, bel.frame _, fun h => by cases h⟩

theorem laid_met (os : Os) : laidMet Tryd.prog Rows.familyApartRow.laid ((laidWorldA os).forCall (fun _ _ => 0) ⟨#[], #[(.int .i64 0 : Value), (.slice none 0 0 : Value), (.slice none 0 0 : Value)], []⟩).memory :=
  laidMet_of_run' 8 (by kernel_rfl) (by kernel_rfl)
theorem reads (os : Os) {H : Type} (enc : TypeId × Value → H) : ∃ places, DataW.whole enc Tryd.prog ((laidWorldA os).forCall (fun _ _ => 0) ⟨#[], #[(.int .i64 0 : Value), (.slice none 0 0 : Value), (.slice none 0 0 : Value)], []⟩).memory Tryd.f7.params.toList Rows.familyApartSpec.vars false #[(.int .i64 0 : Value), (.slice none 0 0 : Value), (.slice none 0 0 : Value)].toList 8 = some ([.lit (.int .i64 0), .nil, .nil], [], places) :=
  ⟨[], by kernel_rfl⟩

set_option maxRecDepth 100000 in
theorem lifted (os : Os) (started : os.Started) (H : Type) (enc : TypeId × Value → H) (F : Stop.Interp) :
    ReturnsInHanded {} Tryd.checked os 7 .any ((OpenSpec.ofChange Rows.familyApartSpec).preRow enc Tryd.prog Tryd.f7 Rows.familyApartRow.domain false Rows.familyApartRow.laid) (((OpenSpec.ofChange Rows.familyApartSpec).at F).post enc Tryd.prog Tryd.f7 false true false false) := by
  obtain ⟨places, hx⟩ := reads os enc
  refine returnsInHanded_of_row (C := Tryd.checked) (s := OpenSpec.ofChange Rows.familyApartSpec) own started (by kernel_rfl) Tryd.func7
    (witness_row_at (enc := enc) (C := Tryd.checked) false (laidWorldA os) #[(.int .i64 0 : Value), (.slice none 0 0 : Value), (.slice none 0 0 : Value)] rfl (by kernel_rfl) (by kernel_rfl) (by kernel_rfl)
      (OpenSpec.preRow_of_cond 8 hx (by kernel_rfl) (fun k hk => by cases hk) (by kernel_rfl) (laid_met os))) ?_
  intro W base args ds gs before hval hW _ _ hsz hL hsh _
  refine contract H enc W base args ds gs before hval hW hL hsh ?_
  obtain ⟨p, q, _, hV, _, _, _⟩ := hW
  obtain ⟨rfl, _⟩ := trodVars_none hV
  have hsz : (DataW.weightsEach Tryd.prog (Tryd.f7.params.toList ++ []) (ds ++ [])).all (· ≤ reachBytes) = true := hsz
  simpa only [List.append_nil] using hsz

theorem said : Rows.FamilyApartSaid :=
  OpenClaim.holds_of_cond 7 Tryd.f7 rfl rfl rfl rfl rfl rfl rfl ⟨rfl, rfl, rfl, rfl, rfl⟩ rfl rfl rfl rfl rfl (by kernel_rfl) Tryd.func7 (by kernel_rfl)
    (of_decide_eq_true (by kernel_rfl)) (by unfold Func.isWrapper; first | (rw [if_pos (by decide +kernel)]; kernel_rfl) | (rw [if_neg (by decide +kernel)]; exact ⟨rfl, rfl⟩))
    (fun os started H enc _ F => by rw [OpenClaim.pre_eq_preRow]; exact lifted os started H enc F)

theorem plain (f : FuncId) (fn : Func) (hf : Tryd.pinned.checked.prog.funcNamed "alembic/alembiclaw27.FamilyApart" = some f) (hfn : Tryd.pinned.checked.prog.funcs[f]? = some fn) :
    false = Tryd.pinned.checked.prog.looks [] ∧ ∀ (j : Nat) t, fn.params[j]? = some t → Tryd.pinned.checked.prog.wantsStandIn t = false := by
  obtain rfl : f = 7 := Option.some.inj ((show Tryd.prog.funcNamed "alembic/alembiclaw27.FamilyApart" = some 7 by kernel_rfl).symm.trans hf) |>.symm
  obtain rfl : fn = Tryd.f7 := (Option.some.inj (Tryd.func7.symm.trans hfn)).symm
  refine ⟨by kernel_rfl, fun j t ht => ?_⟩
  rw [Tryd.params7] at ht
  have hm := Array.mem_of_getElem? ht
  simp only [List.mem_toArray, List.mem_cons, List.not_mem_nil, or_false] at hm
  rcases hm with rfl | rfl | rfl
  · exact (show Tryd.prog.wantsStandIn 3 = false by kernel_rfl)
  · exact (show Tryd.prog.wantsStandIn 22 = false by kernel_rfl)
  · exact (show Tryd.prog.wantsStandIn 22 = false by kernel_rfl)

/-- The card. -/
theorem card : Rows.FamilyApartCardSaid :=
  Claim7.holds_tied_plain_at .later [] _ _ _ _ said (fun _ h => by cases h) (by kernel_rfl) (fun _ h => by cases h) familyApart_row_tie rfl ⟨rfl, rfl⟩ (by kernel_rfl) rfl plain (by kernel_rfl)
#print axioms card
end Go.Proofs.YtkcbdemfmjciiaaDoor.lawFamilyApart
