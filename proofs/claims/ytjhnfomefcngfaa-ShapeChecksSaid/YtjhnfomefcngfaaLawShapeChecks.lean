/-
  The law ShapeChecks: its row, out of what its function answers (the frame by program: mklaw.py). No conditions.
-/
import Derived.Test.YtjhnfomefcngfaaShZs
import Derived.Test.YtjhnfomefcngfaaShQ
namespace Go.Proofs.Ytjhnfomefcngfaa.lawShapeChecks
open Go.ChangeShapes Go.WideShapes Go.ChangeAt Go.RowKit Go.Sy Go.Proofs.Ytjhnfomefcngfaa.Sh Go.Proofs.Ytjhnfomefcngfaa.Ed
set_option maxRecDepth 100000
theorem contract (H:Type) (enc:TypeId × Value->H) (W:World) (base:Nat) (args:Array Value) (ds gs:List (DataW H)) (before:List MemPlace)
    (hval:∀ (j:Nat) t v,Try.f9.params[j]? = some t->args[j]? = some v->Value.okWide Try.prog W .any base t v)
    (hW:DataW.Whole enc Try.prog Try.f9.params.toList Rows.shapeChecksSpec.vars false W args.toList ds gs before) (hL:laidMetH Try.prog Rows.shapeChecksRow.laid W)
    (hsz:(DataW.weightsEach Try.prog Try.f9.params.toList ds).all (· <= reachBytes) = true) :
    Calls Try.prog 9 args W fun e W'=>∃ v,e = .returned v ∧ Rows.shapeChecksSpec.post enc Try.prog Try.f9 false true false false W args v W':=by
  have hW':=hW
  obtain ⟨p,q,hA0,hV,rfl,hfz,hnd⟩:=hW
  have hA:DataW.TrodAll enc Try.prog W 0 (fun _=>true) true Try.f9.params.toList args.toList ds p:=hA0
  rw [Try.params9] at hA hval hsz
  obtain ⟨v0,vs0,d0,ds0,p0,q0,hargs,rfl,rfl,h0,r0⟩:=trodAll_cons hA
  obtain ⟨v1,vs1,d1,ds1,p1,q1,rfl,rfl,rfl,h1,r1⟩:=trodAll_cons r0
  obtain ⟨rfl,rfl,rfl⟩:=trodAll_nil r1
  obtain rfl:args = #[v0,v1]:=by cases args; simp_all
  obtain ⟨rfl,rfl⟩:=trodVars_none hV
  have lt0:∀ x ∈ p0,x.block < W.heap.size:=by obtain ⟨m,hm⟩:=h0; exact DataW.trod_lt m _ _ _ hm
  have lt1:∀ x ∈ p1,x.block < W.heap.size:=by obtain ⟨m,hm⟩:=h1; exact DataW.trod_lt m _ _ _ hm
  obtain ⟨a0,u0,s0⟩:=R4 (hval 0 28 v0 rfl rfl) h0
  have z0:FitS a0:=s0 (Ab3 hsz (j:=0) rfl rfl)
  obtain ⟨a1,u1⟩:=Wn (hval 1 3 v1 rfl rfl) h1
  have hE:Rg Gl (KE W) W:=Ak5
  have he:∃ h',(UX [PN a0,iV a1]).sem = some (bV true,h'):=⟨[],Y8 (AfE (Nat.le_trans z0.ne (by decide)) (Nat.le_trans z0.nx (by decide)) (Nat.le_trans z0.nr (by decide)) (Nat.le_trans z0.nc (by decide)) fun i hi=>Nat.le_trans (z0.ln i hi) (by decide))⟩
  obtain ⟨h',he⟩:=he
  have hv:VRs (KE W) W [PN a0,iV a1] noK [v0,v1]:=⟨_,_,rfl,u0,⟨_,_,rfl,u1,rfl⟩⟩
  have walk:=PA p9 hE hv he
  refine walk.mono fun e W' ⟨he,bel⟩=>?_
  subst he
  exact ⟨_,rfl,_,_,_,[],_,[],hW',trodAll_mk1 (shut_bool Try.underlying4 _),(trodAll_cons_mk (Below.trod UY (by kernel_rfl) (of_decide_eq_true (by kernel_rfl)) h0 bel lt0) (trodAll_cons_mk (Below.trod UY (by kernel_rfl) (of_decide_eq_true (by kernel_rfl)) h1 bel lt1) trodAll_mk0)),rfl,bel.frame _,fun h=>by cases h⟩
theorem laid_met (os:Os):laidMet Try.prog Rows.shapeChecksRow.laid ((Ln os).forCall (fun _ _=>0) ⟨#[],#[(.agg #[.int .i64 0,.slice none 0 0,.slice none 0 0,.int .i64 0,.int .i64 0,.slice none 0 0,.slice none 0 0]:Value),(.int .i64 0:Value)],[]⟩).memory :=
  laidMet_of_run' 8 (by kernel_rfl) (by kernel_rfl)
theorem reads (os:Os) {H:Type} (enc:TypeId × Value->H):∃ places,DataW.whole enc Try.prog ((Ln os).forCall (fun _ _=>0) ⟨#[],#[(.agg #[.int .i64 0,.slice none 0 0,.slice none 0 0,.int .i64 0,.int .i64 0,.slice none 0 0,.slice none 0 0]:Value),(.int .i64 0:Value)],[]⟩).memory Try.f9.params.toList Rows.shapeChecksSpec.vars false #[(.agg #[.int .i64 0,.slice none 0 0,.slice none 0 0,.int .i64 0,.int .i64 0,.slice none 0 0,.slice none 0 0]:Value),(.int .i64 0:Value)].toList 8 = some ([.agg [.lit (.int .i64 0),.nil,.nil,.lit (.int .i64 0),.lit (.int .i64 0),.nil,.nil],.lit (.int .i64 0)],[],places) :=
  ⟨[],by kernel_rfl⟩
set_option maxRecDepth 100000 in
theorem lifted (os:Os) (started:os.Started) (H:Type) (enc:TypeId × Value->H) (F:Stop.Interp) :
    ReturnsInHanded {} Try.checked os 9 .any ((OpenSpec.ofChange Rows.shapeChecksSpec).preRow enc Try.prog Try.f9 Rows.shapeChecksRow.domain false Rows.shapeChecksRow.laid) (((OpenSpec.ofChange Rows.shapeChecksSpec).at F).post enc Try.prog Try.f9 false true false false):=by
  obtain ⟨places,hx⟩:=reads os enc
  refine returnsInHanded_of_row (C:=Try.checked) (s:=OpenSpec.ofChange Rows.shapeChecksSpec) own started (by kernel_rfl) Try.func9
    (witness_row_at (enc:=enc) (C:=Try.checked) false (Ln os) #[(.agg #[.int .i64 0,.slice none 0 0,.slice none 0 0,.int .i64 0,.int .i64 0,.slice none 0 0,.slice none 0 0]:Value),(.int .i64 0:Value)] rfl (by kernel_rfl) (by kernel_rfl) (by kernel_rfl)
      (OpenSpec.preRow_of_cond 8 hx (by kernel_rfl) (fun k hk=>by cases hk) (by kernel_rfl) (laid_met os))) ?_
  intro W base args ds gs before hval hW _ _ hsz hL _ _
  refine contract H enc W base args ds gs before hval hW hL ?_
  obtain ⟨p,q,_,hV,_,_,_⟩:=hW
  obtain ⟨rfl,_⟩:=trodVars_none hV
  have hsz:(DataW.weightsEach Try.prog (Try.f9.params.toList ++ []) (ds ++ [])).all (· <= reachBytes) = true:=hsz
  simpa only [List.append_nil] using hsz
theorem said:Rows.ShapeChecksSaid :=
  OpenClaim.holds_of_cond 9 Try.f9 rfl rfl rfl rfl rfl rfl rfl ⟨rfl,rfl,rfl,rfl,rfl⟩ rfl rfl rfl rfl rfl (by kernel_rfl) Try.func9 (by kernel_rfl)
    (of_decide_eq_true (by kernel_rfl)) (by unfold Func.isWrapper; first | (rw [if_pos (by decide +kernel)]; kernel_rfl) | (rw [if_neg (by decide +kernel)]; exact ⟨rfl,rfl⟩))
    (fun os started H enc _ F=>by rw [OpenClaim.pre_eq_preRow]; exact lifted os started H enc F)
end Go.Proofs.Ytjhnfomefcngfaa.lawShapeChecks
