/-
  The law EmitxRegs: its row, out of what its function answers (the frame by program: mklaw.py). No conditions.
-/
import Derived.Test.YtjhnfomefcngfaaShZ
import Derived.Test.YtjhnfomefcngfaaShYb
namespace Go.Proofs.Ytjhnfomefcngfaa.lawEmitxRegs
open Go.ChangeShapes Go.WideShapes Go.ChangeAt Go.RowKit Go.Sy Go.Proofs.Ytjhnfomefcngfaa.Sh Go.Proofs.Ytjhnfomefcngfaa.Ed
set_option maxRecDepth 100000
theorem contract (H:Type) (enc:TypeId × Value->H) (W:World) (base:Nat) (args:Array Value) (ds gs:List (DataW H)) (before:List MemPlace)
  (hval:∀ (j:Nat) t v,Try.f12.params[j]? = some t->args[j]? = some v->Value.okWide Try.prog W .any base t v)
  (hW:DataW.Whole enc Try.prog Try.f12.params.toList Rows.emitxRegsSpec.vars false W args.toList ds gs before) (hL:laidMetH Try.prog Rows.emitxRegsRow.laid W)
  (hsz:(DataW.weightsEach Try.prog Try.f12.params.toList ds).all (· <= reachBytes) = true) :
  Calls Try.prog 12 args W λe W'=>∃ v,e = .returned v ∧ Rows.emitxRegsSpec.post enc Try.prog Try.f12 false true false false W args v W':=by
 have hW':=hW
 obtain ⟨p,q,hA0,hV,rfl,hfz,hnd⟩:=hW
 have hA:DataW.TrodAll enc Try.prog W 0 (λ_=>true) true Try.f12.params.toList args.toList ds p:=hA0
 rw [Try.params12] at hA hval hsz
 obtain ⟨v0,vs0,d0,ds0,p0,q0,hargs,rfl,rfl,h0,r0⟩:=trodAll_cons hA
 obtain ⟨rfl,rfl,rfl⟩:=trodAll_nil r0
 obtain rfl:args = #[v0]:=by cases args; simp_all
 obtain ⟨rfl,rfl⟩:=trodVars_none hV
 have lt0:∀ x ∈ p0,x.block < W.heap.size:=by obtain ⟨m,hm⟩:=h0; exact DataW.trod_lt m _ _ _ hm
 obtain ⟨n0,a0,u0,s0⟩:=Sf (hval 0 22 v0 rfl rfl) h0
 have z0:n0 * 40 <= reachBytes:=by
  rcases s0 with rfl | ⟨els,rest,rfl,rfl⟩
  ·exact Nat.le_trans (Nat.le_of_eq (Nat.zero_mul _)) (Nat.zero_le _)
  ·have h1:=sized_slice hsz (j:=0) (t:=22) (e:=44) rfl rfl Try.underlying22
   have h2:Try.prog.bytesOf 44 = 40:=by kernel_rfl
   rw [h2] at h1
   omega
 have hE:RB Gl (Pd W) W:=AkJ
 have he:∃ h',(AbT [.sl 6 n0 λi=>eV (a0 i)]).sem = some (bV true,h'):=⟨[],Zo a0 (Nat.le_trans z0 (by decide))⟩
 obtain ⟨h',he⟩:=he
 have hv:VRs (Pd W) W [.sl 6 n0 λi=>eV (a0 i)] noK [v0]:=⟨_,_,rfl,u0,rfl⟩
 have walk:=Qc p12 hE hv he
 refine walk.mono λe W' ⟨he,bel⟩=>?_
 subst he
 exact ⟨_,rfl,_,_,_,[],_,[],hW',trodAll_mk1 (shut_bool Try.underlying4 _),(trodAll_cons_mk (Below.trod AbU (by kernel_rfl) (of_decide_eq_true (by kernel_rfl)) h0 bel lt0) trodAll_mk0),rfl,bel.frame _,λh=>by cases h⟩
theorem laid_met (os:Os):laidMet Try.prog Rows.emitxRegsRow.laid ((L2 os).forCall (λ_ _=>0) ⟨#[],#[(.slice none 0 0:Value)],[]⟩).memory :=
 laidMet_of_run' 8 (by kernel_rfl) (by kernel_rfl)
theorem reads (os:Os) {H:Type} (enc:TypeId × Value->H):∃ places,DataW.whole enc Try.prog ((L2 os).forCall (λ_ _=>0) ⟨#[],#[(.slice none 0 0:Value)],[]⟩).memory Try.f12.params.toList Rows.emitxRegsSpec.vars false #[(.slice none 0 0:Value)].toList 8 = some ([.nil],[],places) :=
 ⟨[],by kernel_rfl⟩
set_option maxRecDepth 100000 in
theorem lifted (os:Os) (started:os.Started) (H:Type) (enc:TypeId × Value->H) (F:Stop.Interp) :
  ReturnsInHanded {} Try.checked os 12 .any ((OpenSpec.ofChange Rows.emitxRegsSpec).preRow enc Try.prog Try.f12 Rows.emitxRegsRow.domain false Rows.emitxRegsRow.laid) (((OpenSpec.ofChange Rows.emitxRegsSpec).at F).post enc Try.prog Try.f12 false true false false):=by
 obtain ⟨places,hx⟩:=reads os enc
 refine returnsInHanded_of_row (C:=Try.checked) (s:=OpenSpec.ofChange Rows.emitxRegsSpec) own started (by kernel_rfl) Try.func12
  (witness_row_at (enc:=enc) (C:=Try.checked) false (L2 os) #[(.slice none 0 0:Value)] rfl (by kernel_rfl) (by kernel_rfl) (by kernel_rfl)
   (OpenSpec.preRow_of_cond 8 hx (by kernel_rfl) (λk hk=>by cases hk) (by kernel_rfl) (laid_met os))) ?_
 intro W base args ds gs before hval hW _ _ hsz hL _ _
 refine contract H enc W base args ds gs before hval hW hL ?_
 obtain ⟨p,q,_,hV,_,_,_⟩:=hW
 obtain ⟨rfl,_⟩:=trodVars_none hV
 have hsz:(DataW.weightsEach Try.prog (Try.f12.params.toList ++ []) (ds ++ [])).all (· <= reachBytes) = true:=hsz
 simpa only [List.append_nil] using hsz
theorem said:Rows.EmitxRegsSaid :=
 OpenClaim.holds_of_cond 12 Try.f12 rfl rfl rfl rfl rfl rfl rfl ⟨rfl,rfl,rfl,rfl,rfl⟩ rfl rfl rfl rfl rfl (by kernel_rfl) Try.func12 (by kernel_rfl)
  (of_decide_eq_true (by kernel_rfl)) (by unfold Func.isWrapper; first | (rw [if_pos (by decide +kernel)]; kernel_rfl) | (rw [if_neg (by decide +kernel)]; exact ⟨rfl,rfl⟩))
  (λos started H enc _ F=>by rw [OpenClaim.pre_eq_preRow]; exact lifted os started H enc F)
end Go.Proofs.Ytjhnfomefcngfaa.lawEmitxRegs
