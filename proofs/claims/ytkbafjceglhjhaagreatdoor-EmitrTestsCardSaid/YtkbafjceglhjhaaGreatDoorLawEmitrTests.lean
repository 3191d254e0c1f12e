/-
  The law EmitrTests: its row and its card, out of what its function answers (the frame by program: mklaw.py). Condition: the listed variables read as listed, tied by the card.
-/
import Derived.Test.YtkbafjceglhjhaaGreatDoorEdK
import Derived.Test.YtkbafjceglhjhaaGreatDoorShE
import Derived.Test.YtkbafjceglhjhaaGreatDoorEtI
namespace Go.Proofs.YtkbafjceglhjhaaGreatDoor.lawEmitrTests
open Go.ChangeShapes Go.WideShapes Go.ChangeAt Go.RowKit Go.Sy Go.Proofs.YtkbafjceglhjhaaGreatDoor.Ed Go.Proofs.YtkbafjceglhjhaaGreatDoor.Sh Go.Proofs.YtkbafjceglhjhaaGreatDoor.Er
set_option maxRecDepth 100000
theorem contract (H:Type) (enc:TypeId×Value->H) (W:World) (base:Nat) (args:Array Value) (ds gs:List (DataW H)) (before:List MemPlace)
  (hval:∀ (j:Nat) t v,Tryz.f4.params[j]? = some t->args[j]? = some v->Value.okWide Tryz.prog W .any base t v)
  (hW:DataW.Whole enc Tryz.prog Tryz.f4.params.toList Rows.emitrTestsSpec.vars false W args.toList ds gs before) (hL:laidMetH Tryz.prog Rows.emitrTestsRow.laid W)
  (hsz:(DataW.weightsEach Tryz.prog Tryz.f4.params.toList ds).all (· <= reachBytes)=true) :
  Calls Tryz.prog 4 args W λe W'=>∃ v,e = .returned v∧Rows.emitrTestsSpec.post enc Tryz.prog Tryz.f4 false true false false W args v W':=by
 have hW':=hW;obtain ⟨p,q,hA0,hV,rfl,hfz,hnd⟩:=hW;have hA:DataW.TrodAll enc Tryz.prog W 0 (λ_=>true) true Tryz.f4.params.toList args.toList ds p:=hA0;rw [Tryz.params4] at hA hval hsz;obtain ⟨v0,vs0,d0,ds0,p0,q0,hargs,rfl,rfl,h0,r0⟩:=trodAll_cons hA;obtain ⟨v1,vs1,d1,ds1,p1,q1,rfl,rfl,rfl,h1,r1⟩:=trodAll_cons r0;obtain ⟨rfl,rfl,rfl⟩:=trodAll_nil r1;obtain rfl:args=#[v0,v1]:=by cases args; simp_all
 obtain ⟨rfl,rfl⟩:=trodVars_none hV;have lt0:∀ x ∈ p0,x.block<W.heap.size:=by obtain ⟨m,hm⟩:=h0; exact DataW.trod_lt m _ _ _ hm
 have lt1:∀ x ∈ p1,x.block<W.heap.size:=by obtain ⟨m,hm⟩:=h1; exact DataW.trod_lt m _ _ _ hm
 obtain ⟨a0,u0,s0⟩:=Uy (hval 0 27 v0 rfl rfl) h0;have z0:FitS a0:=s0 (YW hsz (j:=0) rfl rfl);obtain ⟨a1,u1,b1,s1⟩:=WH (hval 1 9 v1 rfl rfl) h1;have hE:TQ Gl (N4 W) W:=AsS hL;have b2:a1.length <= reachBytes:=by
  have h:=YW hsz (j:=1) rfl rfl;rw [s1] at h;simpa [Afe,DataW.weights] using h
 have he:∃ h',(Aht [EC a0,.str a1]).sem=some (bV true,h'):=⟨[],Ady (Nat.le_trans b2 (by decide)) (Nat.le_trans z0.ne (by decide)) (Nat.le_trans z0.nx (by decide)) (Nat.le_trans z0.nr (by decide)) (Nat.le_trans z0.nc (by decide)) λi hi=>Nat.le_trans (z0.ln i hi) (by decide)⟩;obtain ⟨h',he⟩:=he;have hv:VRs (N4 W) W [EC a0,.str a1] noK [v0,v1]:=⟨_,_,rfl,u0,⟨_,_,rfl,u1,rfl⟩⟩;have walk:=RH p4 hE hv he;refine walk.mono λe W' ⟨he,bel⟩=>?_;subst he;exact ⟨_,rfl,_,_,_,[],_,[],hW',trodAll_mk1 (shut_bool Tryz.underlying4 _),(trodAll_cons_mk (Below.trod YA (by kernel_rfl) (of_decide_eq_true (by kernel_rfl)) h0 bel lt0) (trodAll_cons_mk (Below.trod YA (by kernel_rfl) (of_decide_eq_true (by kernel_rfl)) h1 bel lt1) trodAll_mk0)),rfl,bel.frame _,λh=>by cases h⟩
theorem laid_met (os:Os):laidMet Tryz.prog Rows.emitrTestsRow.laid ((My os).forCall (λ_ _=>0) ⟨#[],#[(.agg #[.int .i64 0,.slice none 0 0,.slice none 0 0,.int .i64 0,.int .i64 0,.slice none 0 0,.slice none 0 0]:Value),(.string ⟨#[]⟩:Value)],[]⟩).memory :=
 laidMet_of_run' 8 (by kernel_rfl) (by kernel_rfl)
theorem reads (os:Os) {H:Type} (enc:TypeId×Value->H):∃ places,DataW.whole enc Tryz.prog ((My os).forCall (λ_ _=>0) ⟨#[],#[(.agg #[.int .i64 0,.slice none 0 0,.slice none 0 0,.int .i64 0,.int .i64 0,.slice none 0 0,.slice none 0 0]:Value),(.string ⟨#[]⟩:Value)],[]⟩).memory Tryz.f4.params.toList Rows.emitrTestsSpec.vars false #[(.agg #[.int .i64 0,.slice none 0 0,.slice none 0 0,.int .i64 0,.int .i64 0,.slice none 0 0,.slice none 0 0]:Value),(.string ⟨#[]⟩:Value)].toList 8=some ([.agg [.lit (.int .i64 0),.nil,.nil,.lit (.int .i64 0),.lit (.int .i64 0),.nil,.nil],.lit (.string [])],[],places) :=
 ⟨[],by kernel_rfl⟩
set_option maxRecDepth 100000 in
theorem lifted (os:Os) (started:os.Started) (H:Type) (enc:TypeId×Value->H) (F:Stop.Interp) :
  ReturnsInHanded {} Tryz.checked os 4 .any ((OpenSpec.ofChange Rows.emitrTestsSpec).preRow enc Tryz.prog Tryz.f4 Rows.emitrTestsRow.domain false Rows.emitrTestsRow.laid) (((OpenSpec.ofChange Rows.emitrTestsSpec).at F).post enc Tryz.prog Tryz.f4 false true false false):=by
 obtain ⟨places,hx⟩:=reads os enc;refine returnsInHanded_of_row (C:=Tryz.checked) (s:=OpenSpec.ofChange Rows.emitrTestsSpec) own started (by kernel_rfl) Tryz.func4
  (witness_row_at (enc:=enc) (C:=Tryz.checked) false (My os) #[(.agg #[.int .i64 0,.slice none 0 0,.slice none 0 0,.int .i64 0,.int .i64 0,.slice none 0 0,.slice none 0 0]:Value),(.string ⟨#[]⟩:Value)] rfl (by kernel_rfl) (by kernel_rfl) (by kernel_rfl)
   (OpenSpec.preRow_of_cond 8 hx (by kernel_rfl) (λk hk=>by cases hk) (by kernel_rfl) (laid_met os))) ?_
 intro W base args ds gs before hval hW _ _ hsz hL _ _;refine contract H enc W base args ds gs before hval hW hL ?_;obtain ⟨p,q,_,hV,_,_,_⟩:=hW;obtain ⟨rfl,_⟩:=trodVars_none hV;have hsz:(DataW.weightsEach Tryz.prog (Tryz.f4.params.toList++[]) (ds++[])).all (· <= reachBytes)=true:=hsz
 simpa only [List.append_nil] using hsz
theorem said:Rows.EmitrTestsSaid :=
 OpenClaim.holds_of_cond 4 Tryz.f4 rfl rfl rfl rfl rfl rfl rfl ⟨rfl,rfl,rfl,rfl,rfl⟩ rfl rfl rfl rfl rfl (by kernel_rfl) Tryz.func4 (by kernel_rfl)
  (of_decide_eq_true (by kernel_rfl)) (by unfold Func.isWrapper; first | (rw [if_pos (by decide +kernel)]; kernel_rfl) | (rw [if_neg (by decide +kernel)]; exact ⟨rfl,rfl⟩))
  (λos started H enc _ F=>by rw [OpenClaim.pre_eq_preRow]; exact lifted os started H enc F)
theorem plain (f:FuncId) (fn:Func) (hf:Tryz.pinned.checked.prog.funcNamed "alembic/alembiclaw12.EmitrTests"=some f) (hfn:Tryz.pinned.checked.prog.funcs[f]? = some fn) :
  false=Tryz.pinned.checked.prog.looks []∧∀ (j:Nat) t,fn.params[j]? = some t->Tryz.pinned.checked.prog.wantsStandIn t=false:=by
 obtain rfl  :f=4:=Option.some.inj ((show Tryz.prog.funcNamed "alembic/alembiclaw12.EmitrTests"=some 4 by kernel_rfl).symm.trans hf) |>.symm
 obtain rfl:fn=Tryz.f4:=(Option.some.inj (Tryz.func4.symm.trans hfn)).symm;refine ⟨by kernel_rfl,λj t ht=>?_⟩;rw [Tryz.params4] at ht;have hm:=Array.mem_of_getElem? ht;simp only [List.mem_toArray,List.mem_cons,List.not_mem_nil,or_false] at hm;rcases hm with rfl | rfl
 ·exact (show Tryz.prog.wantsStandIn 27=false by kernel_rfl)
 ·exact (show Tryz.prog.wantsStandIn 9=false by kernel_rfl)
theorem card:Rows.EmitrTestsCardSaid :=
 Claim7.holds_tied_plain_at .later [] _ _ _ _ said (λ_ h=>by cases h) (by kernel_rfl) (λ_ h=>by cases h) emitrTests_row_tie rfl ⟨rfl,rfl⟩ (by kernel_rfl) rfl plain (by kernel_rfl)
end Go.Proofs.YtkbafjceglhjhaaGreatDoor.lawEmitrTests
