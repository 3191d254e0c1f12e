/-
  The law EmitxCodes: its row, out of what its function answers (the frame by program: mklaw.py). No conditions.
-/
import Derived.Test.YtjhnfomefcngfaaShZs
import Derived.Test.YtjhnfomefcngfaaShAc
namespace Go.Proofs.Ytjhnfomefcngfaa.lawEmitxCodes
open Go.ChangeShapes Go.WideShapes Go.ChangeAt Go.RowKit Go.Sy Go.Proofs.Ytjhnfomefcngfaa.Sh Go.Proofs.Ytjhnfomefcngfaa.Ed
set_option maxRecDepth 100000
theorem contract (H:Type) (enc:TypeId × Value->H) (W:World) (base:Nat) (args:Array Value) (ds gs:List (DataW H)) (before:List MemPlace)
  (hval:∀ (j:Nat) t v,Try.f11.params[j]? = some t->args[j]? = some v->Value.okWide Try.prog W .any base t v)
  (hW:DataW.Whole enc Try.prog Try.f11.params.toList Rows.emitxCodesSpec.vars false W args.toList ds gs before) (hL:laidMetH Try.prog Rows.emitxCodesRow.laid W)
  (hsz:(DataW.weightsEach Try.prog Try.f11.params.toList ds).all (· <= reachBytes) = true) :
  Calls Try.prog 11 args W λe W'=>∃ v,e = .returned v ∧ Rows.emitxCodesSpec.post enc Try.prog Try.f11 false true false false W args v W':=by
 have hW':=hW
 obtain ⟨p,q,hA0,hV,rfl,hfz,hnd⟩:=hW
 have hA:DataW.TrodAll enc Try.prog W 0 (λ_=>true) true Try.f11.params.toList args.toList ds p:=hA0
 rw [Try.params11] at hA hval hsz
 obtain ⟨v0,vs0,d0,ds0,p0,q0,hargs,rfl,rfl,h0,r0⟩:=trodAll_cons hA
 obtain ⟨rfl,rfl,rfl⟩:=trodAll_nil r0
 obtain rfl:args = #[v0]:=by cases args; simp_all
 obtain ⟨rfl,rfl⟩:=trodVars_none hV
 have lt0:∀ x ∈ p0,x.block < W.heap.size:=by obtain ⟨m,hm⟩:=h0; exact DataW.trod_lt m _ _ _ hm
 obtain ⟨a0,u0,s0⟩:=Sz (hval 0 28 v0 rfl rfl) h0
 have z0:FitS a0:=s0 (Ad3 hsz (j:=0) rfl rfl)
 have hE:RK Gl (Lh W) W:=An2
 have he:∃ h',(Wx [Q5 a0]).sem = some (bV true,h'):=⟨[],XG (AhZ (Nat.le_trans z0.ne (by decide)) (Nat.le_trans z0.nx (by decide)) (Nat.le_trans z0.nr (by decide)) (Nat.le_trans z0.nc (by decide)) λi hi=>Nat.le_trans (z0.ln i hi) (by decide))⟩
 obtain ⟨h',he⟩:=he
 have hv:VRs (Lh W) W [Q5 a0] noK [v0]:=⟨_,_,rfl,u0,rfl⟩
 have walk:=Qj p11 hE hv he
 refine walk.mono λe W' ⟨he,bel⟩=>?_
 subst he
 exact ⟨_,rfl,_,_,_,[],_,[],hW',trodAll_mk1 (shut_bool Try.underlying4 _),(trodAll_cons_mk (Below.trod Adn (by kernel_rfl) (of_decide_eq_true (by kernel_rfl)) h0 bel lt0) trodAll_mk0),rfl,bel.frame _,λh=>by cases h⟩
theorem laid_met (os:Os):laidMet Try.prog Rows.emitxCodesRow.laid ((LB os).forCall (λ_ _=>0) ⟨#[],#[(.agg #[.int .i64 0,.slice none 0 0,.slice none 0 0,.int .i64 0,.int .i64 0,.slice none 0 0,.slice none 0 0]:Value)],[]⟩).memory :=
 laidMet_of_run' 8 (by kernel_rfl) (by kernel_rfl)
theorem reads (os:Os) {H:Type} (enc:TypeId × Value->H):∃ places,DataW.whole enc Try.prog ((LB os).forCall (λ_ _=>0) ⟨#[],#[(.agg #[.int .i64 0,.slice none 0 0,.slice none 0 0,.int .i64 0,.int .i64 0,.slice none 0 0,.slice none 0 0]:Value)],[]⟩).memory Try.f11.params.toList Rows.emitxCodesSpec.vars false #[(.agg #[.int .i64 0,.slice none 0 0,.slice none 0 0,.int .i64 0,.int .i64 0,.slice none 0 0,.slice none 0 0]:Value)].toList 8 = some ([.agg [.lit (.int .i64 0),.nil,.nil,.lit (.int .i64 0),.lit (.int .i64 0),.nil,.nil]],[],places) :=
 ⟨[],by kernel_rfl⟩
set_option maxRecDepth 100000 in
theorem lifted (os:Os) (started:os.Started) (H:Type) (enc:TypeId × Value->H) (F:Stop.Interp) :
  ReturnsInHanded {} Try.checked os 11 .any ((OpenSpec.ofChange Rows.emitxCodesSpec).preRow enc Try.prog Try.f11 Rows.emitxCodesRow.domain false Rows.emitxCodesRow.laid) (((OpenSpec.ofChange Rows.emitxCodesSpec).at F).post enc Try.prog Try.f11 false true false false):=by
 obtain ⟨places,hx⟩:=reads os enc
 refine returnsInHanded_of_row (C:=Try.checked) (s:=OpenSpec.ofChange Rows.emitxCodesSpec) own started (by kernel_rfl) Try.func11
  (witness_row_at (enc:=enc) (C:=Try.checked) false (LB os) #[(.agg #[.int .i64 0,.slice none 0 0,.slice none 0 0,.int .i64 0,.int .i64 0,.slice none 0 0,.slice none 0 0]:Value)] rfl (by kernel_rfl) (by kernel_rfl) (by kernel_rfl)
   (OpenSpec.preRow_of_cond 8 hx (by kernel_rfl) (λk hk=>by cases hk) (by kernel_rfl) (laid_met os))) ?_
 intro W base args ds gs before hval hW _ _ hsz hL _ _
 refine contract H enc W base args ds gs before hval hW hL ?_
 obtain ⟨p,q,_,hV,_,_,_⟩:=hW
 obtain ⟨rfl,_⟩:=trodVars_none hV
 have hsz:(DataW.weightsEach Try.prog (Try.f11.params.toList ++ []) (ds ++ [])).all (· <= reachBytes) = true:=hsz
 simpa only [List.append_nil] using hsz
theorem said:Rows.EmitxCodesSaid :=
 OpenClaim.holds_of_cond 11 Try.f11 rfl rfl rfl rfl rfl rfl rfl ⟨rfl,rfl,rfl,rfl,rfl⟩ rfl rfl rfl rfl rfl (by kernel_rfl) Try.func11 (by kernel_rfl)
  (of_decide_eq_true (by kernel_rfl)) (by unfold Func.isWrapper; first | (rw [if_pos (by decide +kernel)]; kernel_rfl) | (rw [if_neg (by decide +kernel)]; exact ⟨rfl,rfl⟩))
  (λos started H enc _ F=>by rw [OpenClaim.pre_eq_preRow]; exact lifted os started H enc F)
end Go.Proofs.Ytjhnfomefcngfaa.lawEmitxCodes
