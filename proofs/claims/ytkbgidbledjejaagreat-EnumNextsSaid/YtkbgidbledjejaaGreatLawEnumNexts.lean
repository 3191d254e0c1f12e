/-
  The law EnumNexts: its row, out of what its function answers (the frame by program: mklaw.py). No conditions.
-/
import Derived.Test.YtkbgidbledjejaaGreatEnNa
import Derived.Test.YtkbgidbledjejaaGreatEnTi
namespace Go.Proofs.YtkbgidbledjejaaGreat.lawEnumNexts
open Go.ChangeShapes Go.WideShapes Go.ChangeAt Go.RowKit Go.Sy Go.Proofs.YtkbgidbledjejaaGreat.En Go.Proofs.YtkbgidbledjejaaGreat.Ed
set_option maxRecDepth 100000
theorem AnH {n:Nat} (h:n * 40 <= reachBytes):BG (Bh n 60)=true:=decide_eq_true (by
 have h9:reachBytes+2400 <= 140737488355328:=by decide
 show (n+60) * 40 <= 140737488355328;omega)
theorem AdB {n1 n3:Nat} {a1 a3:Nat->E6} (a0 a2:Int) (h:BG (Bh n1 60)=true) (g:BG (Bh n3 60)=true):(EnF.law6T [iV a0,.sl 6 n1 λi=>eV (a1 i),iV a2,.sl 6 n3 λi=>eV (a3 i)]).sem=some (bV true,[]):=by
 have h2:(apL (Am n1 a1) λk _=>apL (Am n3 a3) λz _=>T.br (BG (Bh k 60)) (.br (BG (Bh z 60)) (.leaf (bV true,([]:List Blk))) .fail) .fail).sem=some (bV true,[]):=by
  rw [AeT,AeT,h,g];rfl
 exact h2
theorem contract (H:Type) (enc:TypeId×Value->H) (W:World) (base:Nat) (args:Array Value) (ds gs:List (DataW H)) (before:List MemPlace)
  (hval:∀ (j:Nat) t v,Tryz.f6.params[j]? = some t->args[j]? = some v->Value.okWide Tryz.prog W .any base t v)
  (hW:DataW.Whole enc Tryz.prog Tryz.f6.params.toList Rows.enumNextsSpec.vars false W args.toList ds gs before) (hL:laidMetH Tryz.prog Rows.enumNextsRow.laid W)
  (hsz:(DataW.weightsEach Tryz.prog Tryz.f6.params.toList ds).all (· <= reachBytes)=true) :
  Calls Tryz.prog 6 args W λe W'=>∃ v,e = .returned v∧Rows.enumNextsSpec.post enc Tryz.prog Tryz.f6 false true false false W args v W':=by
 have hW':=hW;obtain ⟨p,q,hA0,hV,rfl,hfz,hnd⟩:=hW;have hA:DataW.TrodAll enc Tryz.prog W 0 (λ_=>true) true Tryz.f6.params.toList args.toList ds p:=hA0;rw [Tryz.params6] at hA hval hsz;obtain ⟨v0,vs0,d0,ds0,pl0,q0,hargs,rfl,rfl,h0,r0⟩:=trodAll_cons hA;obtain ⟨v1,vs1,d1,ds1,pl1,q1,rfl,rfl,rfl,h1,r1⟩:=trodAll_cons r0;obtain ⟨v2,vs2,d2,ds2,pl2,q2,rfl,rfl,rfl,h2,r2⟩:=trodAll_cons r1;obtain ⟨v3,vs3,d3,ds3,pl3,q3,rfl,rfl,rfl,h3,r3⟩:=trodAll_cons r2;obtain ⟨rfl,rfl,rfl⟩:=trodAll_nil r3;obtain rfl:args=#[v0,v1,v2,v3]:=by cases args; simp_all
 obtain ⟨rfl,rfl⟩:=trodVars_none hV;have lt0:∀ x ∈ pl0,x.block<W.heap.size:=by obtain ⟨m,hm⟩:=h0; exact DataW.trod_lt m _ _ _ hm
 have lt1:∀ x ∈ pl1,x.block<W.heap.size:=by obtain ⟨m,hm⟩:=h1; exact DataW.trod_lt m _ _ _ hm
 have lt2:∀ x ∈ pl2,x.block<W.heap.size:=by obtain ⟨m,hm⟩:=h2; exact DataW.trod_lt m _ _ _ hm
 have lt3:∀ x ∈ pl3,x.block<W.heap.size:=by obtain ⟨m,hm⟩:=h3; exact DataW.trod_lt m _ _ _ hm
 obtain ⟨a0,u0⟩:=Sl (hval 0 3 v0 rfl rfl) h0;obtain ⟨n1,a1,u1,s1⟩:=NU (hval 1 22 v1 rfl rfl) h1;have z1:n1 * 40 <= reachBytes:=by
  rcases s1 with rfl | ⟨els,rest,rfl,rfl⟩
  ·exact Nat.le_trans (Nat.le_of_eq (Nat.zero_mul _)) (Nat.zero_le _)
  ·have h1:=sized_slice hsz (j:=1) (t:=22) (e:=46) rfl rfl Tryz.underlying22
   have h2:Tryz.prog.bytesOf 46=40:=by kernel_rfl
   rw [h2] at h1;omega
 obtain ⟨a2,u2⟩:=Sl (hval 2 3 v2 rfl rfl) h2;obtain ⟨n3,a3,u3,s3⟩:=NU (hval 3 22 v3 rfl rfl) h3;have z3:n3 * 40 <= reachBytes:=by
  rcases s3 with rfl | ⟨els,rest,rfl,rfl⟩
  ·exact Nat.le_trans (Nat.le_of_eq (Nat.zero_mul _)) (Nat.zero_le _)
  ·have h1:=sized_slice hsz (j:=3) (t:=22) (e:=46) rfl rfl Tryz.underlying22
   have h2:Tryz.prog.bytesOf 46=40:=by kernel_rfl
   rw [h2] at h1;omega
 have hE:MK Gl (WB W) W:=ApM;have he:∃ h',(EnF.law6T [iV a0,.sl 6 n1 λi=>eV (a1 i),iV a2,.sl 6 n3 λi=>eV (a3 i)]).sem=some (bV true,h'):=⟨[],AdB a0 a2 (AnH z1) (AnH z3)⟩;obtain ⟨h',he⟩:=he;have hv:VRs (WB W) W [iV a0,.sl 6 n1 λi=>eV (a1 i),iV a2,.sl 6 n3 λi=>eV (a3 i)] noK [v0,v1,v2,v3]:=⟨_,_,rfl,u0,⟨_,_,rfl,u1,⟨_,_,rfl,u2,⟨_,_,rfl,u3,rfl⟩⟩⟩⟩;have walk:=Tp EnF.p6 hE hv he;refine walk.mono λe W' ⟨he,bel⟩=>?_;subst he;exact ⟨_,rfl,_,_,_,[],_,[],hW',trodAll_mk1 (shut_bool Tryz.underlying4 _),(trodAll_cons_mk (Below.trod OH (by kernel_rfl) (of_decide_eq_true (by kernel_rfl)) h0 bel lt0) (trodAll_cons_mk (Below.trod OH (by kernel_rfl) (of_decide_eq_true (by kernel_rfl)) h1 bel lt1) (trodAll_cons_mk (Below.trod OH (by kernel_rfl) (of_decide_eq_true (by kernel_rfl)) h2 bel lt2) (trodAll_cons_mk (Below.trod OH (by kernel_rfl) (of_decide_eq_true (by kernel_rfl)) h3 bel lt3) trodAll_mk0)))),rfl,bel.frame _,λh=>by cases h⟩
theorem laid_met (os:Os):laidMet Tryz.prog Rows.enumNextsRow.laid ((Nu os).forCall (λ_ _=>0) ⟨#[],#[(.int .i64 0:Value),(.slice none 0 0:Value),(.int .i64 0:Value),(.slice none 0 0:Value)],[]⟩).memory :=
 laidMet_of_run' 8 (by kernel_rfl) (by kernel_rfl)
theorem reads (os:Os) {H:Type} (enc:TypeId×Value->H):∃ places,DataW.whole enc Tryz.prog ((Nu os).forCall (λ_ _=>0) ⟨#[],#[(.int .i64 0:Value),(.slice none 0 0:Value),(.int .i64 0:Value),(.slice none 0 0:Value)],[]⟩).memory Tryz.f6.params.toList Rows.enumNextsSpec.vars false #[(.int .i64 0:Value),(.slice none 0 0:Value),(.int .i64 0:Value),(.slice none 0 0:Value)].toList 8=some ([.lit (.int .i64 0),.nil,.lit (.int .i64 0),.nil],[],places) :=
 ⟨[],by kernel_rfl⟩
set_option maxRecDepth 100000 in
theorem lifted (os:Os) (started:os.Started) (H:Type) (enc:TypeId×Value->H) (F:Stop.Interp) :
  ReturnsInHanded {} Tryz.checked os 6 .any ((OpenSpec.ofChange Rows.enumNextsSpec).preRow enc Tryz.prog Tryz.f6 Rows.enumNextsRow.domain false Rows.enumNextsRow.laid) (((OpenSpec.ofChange Rows.enumNextsSpec).at F).post enc Tryz.prog Tryz.f6 false true false false):=by
 obtain ⟨places,hx⟩:=reads os enc;refine returnsInHanded_of_row (C:=Tryz.checked) (s:=OpenSpec.ofChange Rows.enumNextsSpec) own started (by kernel_rfl) Tryz.func6
  (witness_row_at (enc:=enc) (C:=Tryz.checked) false (Nu os) #[(.int .i64 0:Value),(.slice none 0 0:Value),(.int .i64 0:Value),(.slice none 0 0:Value)] rfl (by kernel_rfl) (by kernel_rfl) (by kernel_rfl)
   (OpenSpec.preRow_of_cond 8 hx (by kernel_rfl) (λk hk=>by cases hk) (by kernel_rfl) (laid_met os))) ?_
 intro W base args ds gs before hval hW _ _ hsz hL _ _;refine contract H enc W base args ds gs before hval hW hL ?_;obtain ⟨p,q,_,hV,_,_,_⟩:=hW;obtain ⟨rfl,_⟩:=trodVars_none hV;have hsz:(DataW.weightsEach Tryz.prog (Tryz.f6.params.toList++[]) (ds++[])).all (· <= reachBytes)=true:=hsz
 simpa only [List.append_nil] using hsz
theorem said:Rows.EnumNextsSaid :=
 OpenClaim.holds_of_cond 6 Tryz.f6 rfl rfl rfl rfl rfl rfl rfl ⟨rfl,rfl,rfl,rfl,rfl⟩ rfl rfl rfl rfl rfl (by kernel_rfl) Tryz.func6 (by kernel_rfl)
  (of_decide_eq_true (by kernel_rfl)) (by unfold Func.isWrapper; first | (rw [if_pos (by decide +kernel)]; kernel_rfl) | (rw [if_neg (by decide +kernel)]; exact ⟨rfl,rfl⟩))
  (λos started H enc _ F=>by rw [OpenClaim.pre_eq_preRow]; exact lifted os started H enc F)
end Go.Proofs.YtkbgidbledjejaaGreat.lawEnumNexts
