/-
  The law EnumSteps: its row, out of what its function answers (the frame by program: mklaw.py). No conditions.
-/
import Derived.Test.YtkbgidbledjejaaGreatEnFr
import Derived.Test.YtkbgidbledjejaaGreatEnSt
namespace Go.Proofs.YtkbgidbledjejaaGreat.lawEnumSteps
open Go.ChangeShapes Go.WideShapes Go.ChangeAt Go.RowKit Go.Sy Go.Proofs.YtkbgidbledjejaaGreat.En Go.Proofs.YtkbgidbledjejaaGreat.Ed
set_option maxRecDepth 100000
theorem AcZ {n1:Nat} {a1:Nat->E6} (a0 a2:Int):(YD [iV a0,.sl 6 n1 λi=>eV (a1 i),iV a2]).sem=some (bV true,[]):=by
 have h2:(apL (Ao n1 a1) λ_ _=>T.leaf (bV true,([]:List Blk))).sem=some (bV true,[]):=by
  rw [AjP];rfl
 exact h2
theorem contract (H:Type) (enc:TypeId×Value->H) (W:World) (base:Nat) (args:Array Value) (ds gs:List (DataW H)) (before:List MemPlace)
  (hval:∀ (j:Nat) t v,Tryz.f7.params[j]? = some t->args[j]? = some v->Value.okWide Tryz.prog W .any base t v)
  (hW:DataW.Whole enc Tryz.prog Tryz.f7.params.toList Rows.enumStepsSpec.vars false W args.toList ds gs before) (hL:laidMetH Tryz.prog Rows.enumStepsRow.laid W)
  (hsz:(DataW.weightsEach Tryz.prog Tryz.f7.params.toList ds).all (· <= reachBytes)=true) :
  Calls Tryz.prog 7 args W λe W'=>∃ v,e = .returned v∧Rows.enumStepsSpec.post enc Tryz.prog Tryz.f7 false true false false W args v W':=by
 have hW':=hW;obtain ⟨p,q,hA0,hV,rfl,hfz,hnd⟩:=hW;have hA:DataW.TrodAll enc Tryz.prog W 0 (λ_=>true) true Tryz.f7.params.toList args.toList ds p:=hA0;rw [Tryz.params7] at hA hval hsz;obtain ⟨v0,vs0,d0,ds0,p0,q0,hargs,rfl,rfl,h0,r0⟩:=trodAll_cons hA;obtain ⟨v1,vs1,d1,ds1,p1,q1,rfl,rfl,rfl,h1,r1⟩:=trodAll_cons r0;obtain ⟨v2,vs2,d2,ds2,p2,q2,rfl,rfl,rfl,h2,r2⟩:=trodAll_cons r1;obtain ⟨rfl,rfl,rfl⟩:=trodAll_nil r2;obtain rfl:args=#[v0,v1,v2]:=by cases args; simp_all
 obtain ⟨rfl,rfl⟩:=trodVars_none hV;have lt0:∀ x ∈ p0,x.block<W.heap.size:=by obtain ⟨m,hm⟩:=h0; exact DataW.trod_lt m _ _ _ hm
 have lt1:∀ x ∈ p1,x.block<W.heap.size:=by obtain ⟨m,hm⟩:=h1; exact DataW.trod_lt m _ _ _ hm
 have lt2:∀ x ∈ p2,x.block<W.heap.size:=by obtain ⟨m,hm⟩:=h2; exact DataW.trod_lt m _ _ _ hm
 obtain ⟨a0,u0⟩:=RO (hval 0 3 v0 rfl rfl) h0;obtain ⟨n1,a1,u1,s1⟩:=UQ (hval 1 22 v1 rfl rfl) h1;have z1:n1 * 40 <= reachBytes:=by
  rcases s1 with rfl | ⟨els,rest,rfl,rfl⟩
  ·exact Nat.le_trans (Nat.le_of_eq (Nat.zero_mul _)) (Nat.zero_le _)
  ·have h1:=sized_slice hsz (j:=1) (t:=22) (e:=46) rfl rfl Tryz.underlying22
   have h2:Tryz.prog.bytesOf 46=40:=by kernel_rfl
   rw [h2] at h1;omega
 obtain ⟨a2,u2⟩:=RO (hval 2 3 v2 rfl rfl) h2;have hE:MF Gl (Ws W) W:=Ao0;have he:∃ h',(YD [iV a0,.sl 6 n1 λi=>eV (a1 i),iV a2]).sem=some (bV true,h'):=⟨[],AcZ a0 a2⟩;obtain ⟨h',he⟩:=he;have hv:VRs (Ws W) W [iV a0,.sl 6 n1 λi=>eV (a1 i),iV a2] noK [v0,v1,v2]:=⟨_,_,rfl,u0,⟨_,_,rfl,u1,⟨_,_,rfl,u2,rfl⟩⟩⟩;have walk:=SO En.p7 hE hv he;refine walk.mono λe W' ⟨he,bel⟩=>?_;subst he;exact ⟨_,rfl,_,_,_,[],_,[],hW',trodAll_mk1 (shut_bool Tryz.underlying4 _),(trodAll_cons_mk (Below.trod TC (by kernel_rfl) (of_decide_eq_true (by kernel_rfl)) h0 bel lt0) (trodAll_cons_mk (Below.trod TC (by kernel_rfl) (of_decide_eq_true (by kernel_rfl)) h1 bel lt1) (trodAll_cons_mk (Below.trod TC (by kernel_rfl) (of_decide_eq_true (by kernel_rfl)) h2 bel lt2) trodAll_mk0))),rfl,bel.frame _,λh=>by cases h⟩
theorem laid_met (os:Os):laidMet Tryz.prog Rows.enumStepsRow.laid ((Nk os).forCall (λ_ _=>0) ⟨#[],#[(.int .i64 0:Value),(.slice none 0 0:Value),(.int .i64 0:Value)],[]⟩).memory :=
 laidMet_of_run' 8 (by kernel_rfl) (by kernel_rfl)
theorem reads (os:Os) {H:Type} (enc:TypeId×Value->H):∃ places,DataW.whole enc Tryz.prog ((Nk os).forCall (λ_ _=>0) ⟨#[],#[(.int .i64 0:Value),(.slice none 0 0:Value),(.int .i64 0:Value)],[]⟩).memory Tryz.f7.params.toList Rows.enumStepsSpec.vars false #[(.int .i64 0:Value),(.slice none 0 0:Value),(.int .i64 0:Value)].toList 8=some ([.lit (.int .i64 0),.nil,.lit (.int .i64 0)],[],places) :=
 ⟨[],by kernel_rfl⟩
set_option maxRecDepth 100000 in
theorem lifted (os:Os) (started:os.Started) (H:Type) (enc:TypeId×Value->H) (F:Stop.Interp) :
  ReturnsInHanded {} Tryz.checked os 7 .any ((OpenSpec.ofChange Rows.enumStepsSpec).preRow enc Tryz.prog Tryz.f7 Rows.enumStepsRow.domain false Rows.enumStepsRow.laid) (((OpenSpec.ofChange Rows.enumStepsSpec).at F).post enc Tryz.prog Tryz.f7 false true false false):=by
 obtain ⟨places,hx⟩:=reads os enc;refine returnsInHanded_of_row (C:=Tryz.checked) (s:=OpenSpec.ofChange Rows.enumStepsSpec) own started (by kernel_rfl) Tryz.func7
  (witness_row_at (enc:=enc) (C:=Tryz.checked) false (Nk os) #[(.int .i64 0:Value),(.slice none 0 0:Value),(.int .i64 0:Value)] rfl (by kernel_rfl) (by kernel_rfl) (by kernel_rfl)
   (OpenSpec.preRow_of_cond 8 hx (by kernel_rfl) (λk hk=>by cases hk) (by kernel_rfl) (laid_met os))) ?_
 intro W base args ds gs before hval hW _ _ hsz hL _ _;refine contract H enc W base args ds gs before hval hW hL ?_;obtain ⟨p,q,_,hV,_,_,_⟩:=hW;obtain ⟨rfl,_⟩:=trodVars_none hV;have hsz:(DataW.weightsEach Tryz.prog (Tryz.f7.params.toList++[]) (ds++[])).all (· <= reachBytes)=true:=hsz
 simpa only [List.append_nil] using hsz
theorem said:Rows.EnumStepsSaid :=
 OpenClaim.holds_of_cond 7 Tryz.f7 rfl rfl rfl rfl rfl rfl rfl ⟨rfl,rfl,rfl,rfl,rfl⟩ rfl rfl rfl rfl rfl (by kernel_rfl) Tryz.func7 (by kernel_rfl)
  (of_decide_eq_true (by kernel_rfl)) (by unfold Func.isWrapper; first | (rw [if_pos (by decide +kernel)]; kernel_rfl) | (rw [if_neg (by decide +kernel)]; exact ⟨rfl,rfl⟩))
  (λos started H enc _ F=>by rw [OpenClaim.pre_eq_preRow]; exact lifted os started H enc F)
end Go.Proofs.YtkbgidbledjejaaGreat.lawEnumSteps
