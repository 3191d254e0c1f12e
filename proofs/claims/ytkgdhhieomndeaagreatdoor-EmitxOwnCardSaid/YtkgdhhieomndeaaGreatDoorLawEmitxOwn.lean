/-
  The law EmitxOwn: its row and its card, out of what its function answers (the frame by program: mklaw.py). Condition: the listed variables read as listed, tied by the card.
-/
import Derived.Test.YtkgdhhieomndeaaGreatDoorEdV
namespace Go.Proofs.YtkgdhhieomndeaaGreatDoor.lawEmitxOwn
open Go.ChangeShapes Go.WideShapes Go.ChangeAt Go.RowKit Go.Sy Go.Proofs.YtkgdhhieomndeaaGreatDoor.Ed
set_option maxRecDepth 100000
theorem contract (H:Type) (enc:TypeId×Value->H) (W:World) (base:Nat) (args:Array Value) (ds gs:List (DataW H)) (before:List MemPlace)
  (hval:∀ (j:Nat) t v,Tryz.f4.params[j]? = some t->args[j]? = some v->Value.okWide Tryz.prog W .any base t v)
  (hW:DataW.Whole enc Tryz.prog Tryz.f4.params.toList Rows.emitxOwnSpec.vars false W args.toList ds gs before) (hL:laidMetH Tryz.prog Rows.emitxOwnRow.laid W)
  (hsz:(DataW.weightsEach Tryz.prog Tryz.f4.params.toList ds).all (· <= reachBytes)=true) :
  Calls Tryz.prog 4 args W λe W'=>∃ v,e = .returned v∧Rows.emitxOwnSpec.post enc Tryz.prog Tryz.f4 false true false false W args v W':=by
 have hW':=hW;obtain ⟨p,q,hA0,hV,rfl,hfz,hnd⟩:=hW;have hA:DataW.TrodAll enc Tryz.prog W 0 (λ_=>true) true Tryz.f4.params.toList args.toList ds p:=hA0;rw [Tryz.params4] at hA hval hsz;obtain ⟨v0,vs0,d0,ds0,p0,q0,hargs,rfl,rfl,h0,r0⟩:=trodAll_cons hA;obtain ⟨rfl,rfl,rfl⟩:=trodAll_nil r0;obtain rfl:args=#[v0]:=by cases args; simp_all
 obtain ⟨rfl,rfl⟩:=trodVars_none hV;have lt0:∀ x ∈ p0,x.block<W.heap.size:=by obtain ⟨m,hm⟩:=h0; exact DataW.trod_lt m _ _ _ hm
 obtain ⟨n0,a0,u0,s0⟩:=TY (hval 0 22 v0 rfl rfl) h0;have z0:n0 * 40 <= reachBytes:=by
  rcases s0 with rfl | ⟨els,rest,rfl,rfl⟩
  ·exact Nat.le_trans (Nat.le_of_eq (Nat.zero_mul _)) (Nat.zero_le _)
  ·have h1:=sized_slice hsz (j:=0) (t:=22) (e:=92) rfl rfl Tryz.underlying22
   have h2:Tryz.prog.bytesOf 92=40:=by kernel_rfl
   rw [h2] at h1;omega
 have hE:Tm Gl (PZ W) W:=Aqa hL;have he:∃ h',(Em.lawO [.sl 6 n0 λi=>eV (a0 i)]).sem=some (bV true,h'):=Em.lawO_sem a0 (by unfold reachBytes at z0; omega);obtain ⟨h',he⟩:=he;have hv:VRs (PZ W) W [.sl 6 n0 λi=>eV (a0 i)] noK [v0]:=⟨_,_,rfl,u0,rfl⟩;have walk:=Rj Em.p4x hE hv he;refine walk.mono λe W' ⟨he,bel⟩=>?_;subst he;exact ⟨_,rfl,_,_,_,[],_,[],hW',trodAll_mk1 (shut_bool Tryz.underlying4 _),(trodAll_cons_mk (Below.trod AfU (by kernel_rfl) (of_decide_eq_true (by kernel_rfl)) h0 bel lt0) trodAll_mk0),rfl,bel.frame _,λh=>by cases h⟩
theorem laid_met (os:Os):laidMet Tryz.prog Rows.emitxOwnRow.laid ((Mi os).forCall (λ_ _=>0) ⟨#[],#[(.slice none 0 0:Value)],[]⟩).memory :=
 laidMet_of_run' 8 (by kernel_rfl) (by kernel_rfl)
theorem reads (os:Os) {H:Type} (enc:TypeId×Value->H):∃ places,DataW.whole enc Tryz.prog ((Mi os).forCall (λ_ _=>0) ⟨#[],#[(.slice none 0 0:Value)],[]⟩).memory Tryz.f4.params.toList Rows.emitxOwnSpec.vars false #[(.slice none 0 0:Value)].toList 8=some ([.nil],[],places) :=
 ⟨[],by kernel_rfl⟩
set_option maxRecDepth 100000 in
theorem lifted (os:Os) (started:os.Started) (H:Type) (enc:TypeId×Value->H) (F:Stop.Interp) :
  ReturnsInHanded {} Tryz.checked os 4 .any ((OpenSpec.ofChange Rows.emitxOwnSpec).preRow enc Tryz.prog Tryz.f4 Rows.emitxOwnRow.domain false Rows.emitxOwnRow.laid) (((OpenSpec.ofChange Rows.emitxOwnSpec).at F).post enc Tryz.prog Tryz.f4 false true false false):=by
 obtain ⟨places,hx⟩:=reads os enc;refine returnsInHanded_of_row (C:=Tryz.checked) (s:=OpenSpec.ofChange Rows.emitxOwnSpec) own started (by kernel_rfl) Tryz.func4
  (witness_row_at (enc:=enc) (C:=Tryz.checked) false (Mi os) #[(.slice none 0 0:Value)] rfl (by kernel_rfl) (by kernel_rfl) (by kernel_rfl)
   (OpenSpec.preRow_of_cond 8 hx (by kernel_rfl) (λk hk=>by cases hk) (by kernel_rfl) (laid_met os))) ?_
 intro W base args ds gs before hval hW _ _ hsz hL _ _;refine contract H enc W base args ds gs before hval hW hL ?_;obtain ⟨p,q,_,hV,_,_,_⟩:=hW;obtain ⟨rfl,_⟩:=trodVars_none hV;have hsz:(DataW.weightsEach Tryz.prog (Tryz.f4.params.toList++[]) (ds++[])).all (· <= reachBytes)=true:=hsz
 simpa only [List.append_nil] using hsz
theorem said:Rows.EmitxOwnSaid :=
 OpenClaim.holds_of_cond 4 Tryz.f4 rfl rfl rfl rfl rfl rfl rfl ⟨rfl,rfl,rfl,rfl,rfl⟩ rfl rfl rfl rfl rfl (by kernel_rfl) Tryz.func4 (by kernel_rfl)
  (of_decide_eq_true (by kernel_rfl)) (by unfold Func.isWrapper; first | (rw [if_pos (by decide +kernel)]; kernel_rfl) | (rw [if_neg (by decide +kernel)]; exact ⟨rfl,rfl⟩))
  (λos started H enc _ F=>by rw [OpenClaim.pre_eq_preRow]; exact lifted os started H enc F)
theorem plain (f:FuncId) (fn:Func) (hf:Tryz.pinned.checked.prog.funcNamed "alembic/alembiclaw11.EmitxOwn"=some f) (hfn:Tryz.pinned.checked.prog.funcs[f]? = some fn) :
  false=Tryz.pinned.checked.prog.looks []∧∀ (j:Nat) t,fn.params[j]? = some t->Tryz.pinned.checked.prog.wantsStandIn t=false:=by
 obtain rfl:f=4:=Option.some.inj ((show Tryz.prog.funcNamed "alembic/alembiclaw11.EmitxOwn"=some 4 by kernel_rfl).symm.trans hf) |>.symm
 obtain rfl:fn=Tryz.f4:=(Option.some.inj (Tryz.func4.symm.trans hfn)).symm;refine ⟨by kernel_rfl,λj t ht=>?_⟩;rw [Tryz.params4] at ht;have hm:=Array.mem_of_getElem? ht;simp only [List.mem_toArray,List.mem_cons,List.not_mem_nil,or_false] at hm;subst hm;exact (show Tryz.prog.wantsStandIn 22=false by kernel_rfl)
theorem card:Rows.EmitxOwnCardSaid :=
 Claim7.holds_tied_plain_at .later [] _ _ _ _ said (λ_ h=>by cases h) (by kernel_rfl) (λ_ h=>by cases h) emitxOwn_row_tie rfl ⟨rfl,rfl⟩ (by kernel_rfl) rfl plain (by kernel_rfl)
end Go.Proofs.YtkgdhhieomndeaaGreatDoor.lawEmitxOwn
