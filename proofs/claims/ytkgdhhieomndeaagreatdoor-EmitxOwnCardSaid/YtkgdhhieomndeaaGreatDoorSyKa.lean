/-
  Own maps of numbers by numbers: made, looked up, written. Conditions: the table is the program's.
-/
import Derived.Test.YtkgdhhieomndeaaGreatDoorSyK
import Derived.Maps.Views
import Derived.Maps.OwnSet
import Derived.Carry
namespace Go.Sy
section
variable {P:Program} {τ:List Ty} (hτ:TabOK P τ) {Γ:Cx0} {S:Nat->Prop} {w:World} {κ:A2} {st:St} {a:Act} {o:Oper}
 {K:Act->World->Prop} {Q:Exit->Act->World->Prop} {r:V×St}
theorem Q7 (hP:P=V9) {t k e:TypeId} (ht:P.underlying t=some (.map k e)) {b n:Nat} {ob:Obj} {get:Int->Int} (hb:w.heap[b]? = some ob) (h:AdX t n get ob) :
  ∃ D:DataW Unit,w.ownsMap P k (plainElem P e) b n D∧∀ x,(Lit.int .i64 x).wf=true->D.atKey (.int .i64 x) (.lit (.int .i64 0)) = .lit (.int .i64 (get x)):=by
 subst hP;unfold AdX at h;rw [ht] at h;obtain ⟨es,clock,rfl,F,hs,hg⟩:=h;exact ⟨_,⟨es,clock,hb,F,hs,rfl⟩,hg⟩
theorem Q4 (hP:P=V9) {t k e:TypeId} (ht:P.underlying t=some (.map k e)) {b n:Nat} {get:Int->Int} {D:DataW Unit} (h:w.ownsMap P k (plainElem P e) b n D)
  (hg:∀ x,(Lit.int .i64 x).wf=true->D.atKey (.int .i64 x) (.lit (.int .i64 0)) = .lit (.int .i64 (get x))):∃ ob,w.heap[b]? = some ob∧AdX t n get ob:=by
 subst hP;obtain ⟨es,clock,hb,F,hs,rfl⟩:=h;refine ⟨_,hb,?_⟩;unfold AdX;rw [ht];exact ⟨es,clock,rfl,F,hs,hg⟩
theorem NA {x:Int} (h:F6 x=true):(Lit.int .i64 x).wf=true:=by
 simp only [F6,Bool.and_eq_true,decide_eq_true_eq] at h;simp [Lit.wf,IntKind.min,IntKind.max,IntKind.bits,IntKind.signed];omega
include hτ in
theorem Zh {e:TypeId} (h:Aar τ e=true) (w:World):(zeroValue e).run P w = .ok (.int .i64 0) w:=by
 unfold Aar at h;split at h
 ·rename_i te hte
  obtain ⟨i,_,hi,_,_,_,_,hz,_⟩:=hτ.info hte;split at h
  ·rename_i hz0
   rw [hz0] at hz;cases hi0:i.zero with
   | none=>rw [hi0] at hz; cases hz
   | some z =>rw [hi0] at hz;have hv:VR (λ_=>False) w (ofValue z) noK z:=Dg z;rw [<- show V.val (.int .i64 (.ofNat 0))=ofValue z from hz] at hv;have:z = .int .i64 0:=hv;subst this;simp only [zeroValue,typeInfo,Sem.run_bind,run_program,Result.andThen_ok,hi,hi0,Sem.run_pure]
  ·cases h
 ·cases h
include hτ in
theorem ZI (hg:Good κ S st.h w) {t:TypeId} {m x:V} {cm cx:Value} (hm:VR S w m κ cm) (hx:VR S w x κ cx)
  (hrun:(execOp a.eval o).run P w=((Instr.lookup t cm cx false).run P w).andThen λv w'=>.ok (.value v) w') {v:V}
  (h:(Sm τ st t m x).sem=some v):It P a o S w κ v:=by
 unfold Sm at h;split at h
 ·rename_i ty hty
  obtain ⟨_,d,_,hd,hk,_⟩:=hτ.info hty;split at h
  ·rename_i e id key hkk
   rw [hkk] at hk;obtain ⟨k,rfl,h1,h2⟩:=OR hk.symm;split at h
   ·rename_i t' n get hh hz
    split at h
    ·rename_i hbt
     have hbt:=Nat.eq_of_beq_eq_true hbt;subst hbt;obtain ⟨hf,h⟩:=Ad h;obtain ⟨b,ob,q1,q2,q3⟩:=hg.blk id _ hh;obtain ⟨hm1,_⟩:=hm;rw [q1] at hm1;simp at hm1;subst hm1;obtain ⟨D,own,hat⟩:=Q7 hτ.same hd q2 q3;have hx:cx = .int .i64 key:=hx;subst hx;obtain ⟨c,hc,hat2,_⟩:=own.lookup_int (Maps.int_keyed h1) hd h2 (Zh hτ hz w) (Maps.keyOf_int_mk h1 (NA hf));rw [hat key (NA hf)] at hat2;have e:get key=c:=by simpa using hat2
     rw [Ab h,e];exact ⟨_,by rw [hrun,hc]; rfl,rfl⟩
    ·cases h
   ·cases h
  ·cases h
 ·cases h
include hτ in
theorem W6 (hg:Good κ S st.h w) (ht:VRs S w st.t κ a.tmps.toList) {t:TypeId}
  (hrun:(execOp a.eval o).run P w=((Instr.makeMap t none).run P w).andThen λv w'=>.ok (.value v) w')
  (h:(O8 τ st t).sem=some r) (hp:EO a o κ S st w K r):o.wp P a w K Q:=by
 unfold O8 at h;split at h
 ·rename_i ty hty
  obtain ⟨_,d,_,hd,hk,_⟩:=hτ.info hty;split at h
  ·rename_i e hkk
   rw [hkk] at hk;obtain ⟨k,rfl,h1,h2⟩:=OR hk.symm;have own:=World.ownsMap_made (H:=Unit) w P k (plainElem P e);obtain ⟨ob,q1,q2⟩:=Q4 (get:=λ_=>0) hτ.same hd own λx _=>rfl;have hrun':(execOp a.eval o).run P w = .ok (.value (.map (some w.heap.size))) (w.alloc (.map #[] 0)):=by
    rw [hrun];rfl
   refine O1 (v:=V.ref) hg ht hrun' (CM w _) (by simp) rfl rfl rfl ?_ (.inr rfl) ⟨by simp [B0],.inr ⟨_,rfl⟩⟩ h hp;exact ⟨w.heap.size,ob,rfl,q1,q2⟩
  ·cases h
 ·cases h
include hτ in
theorem ZG (hg:Good κ S st.h w) (ht:VRs S w st.t κ a.tmps.toList) {t:TypeId} {m x y:V} {cm cx cy:Value} (hm:VR S w m κ cm) (hx:VR S w x κ cx) (hy:VR S w y κ cy)
  (hrun:(execOp a.eval o).run P w=((Instr.mapUpdate t cm cx cy).run P w).andThen λ_ w'=>.ok .skip w')
  (h:(Sg τ st t m x y).sem=some r) (hp:EO a o κ S st w K r):o.wp P a w K Q:=by
 unfold Sg at h;split at h
 ·rename_i ty hty
  obtain ⟨_,d,_,hd,hk,_⟩:=hτ.info hty;split at h
  ·rename_i e id key val hkk
   rw [hkk] at hk;obtain ⟨k,rfl,h1,h2⟩:=OR hk.symm;split at h
   ·rename_i t' n get hh
    split at h
    ·rename_i hbt
     have hbt:=Nat.eq_of_beq_eq_true hbt;subst hbt;obtain ⟨hn,h⟩:=Ad h;obtain ⟨hf,h⟩:=Ad h;obtain ⟨hf2,h⟩:=Ad h;have hn:n<4611686018427387904:=of_decide_eq_true hn;have hr:=Ab h;subst hr;obtain ⟨b,ob,q1,q2,q3⟩:=hg.blk id _ hh;obtain ⟨hm1,_⟩:=hm;rw [q1] at hm1;simp at hm1;subst hm1;obtain ⟨D,own,hat⟩:=Q7 hτ.same hd q2 q3;have hx:cx = .int .i64 key:=hx;subst hx;have hy:cy = .int .i64 val:=hy;subst hy;obtain ⟨w',hc,own',hgr⟩:=own.store (Maps.int_keyed h1) hd (by unfold maxLen; omega) (Maps.keyOf_int_mk h1 (NA hf)) (plainElem_int h2 (NA hf2));have hmap:Maps.IsMap D:=by
      obtain ⟨_,_,_,_,_,e⟩:=own;exact ⟨_,e⟩
     obtain ⟨ob',p1,p2⟩:=Q4 (get:=RL get key val) hτ.same hd own' λx hx=>by
      unfold RL sel ieq;by_cases hxk:x=key
      ·subst hxk
       rw [Maps.atKey_put_same hmap (show WideAt.IsKeyLit (.int .i64 x) from trivial)];simp
      ·rw [Maps.atKey_put_other (by intro h; simp at h; exact hxk h),hat x hx]
       have:(x == key)=false:=by simpa using hxk
       rw [this];rfl
     obtain ⟨_,_,_,_,hsb,hw'⟩:=hgr;have hidb:A1 (κ id)=some b:=by rw [q1]; rfl
     have hgown:AU κ st.h id b:=(A8 hh).2 hidb;have hwk:∀ k,k ≠ b->w'.heap[k]? = w.heap[k]?:=λk hk=>by rw [hw']; exact ChangeMaps.heap_setBlock_other hsb _ hk
     have hsz:w'.heap.size=w.heap.size:=by rw [hw']; simp [ChangeMaps.setBlock]
     have hS:∀ b',S b'->S b'∧w'.heap[b']? = w.heap[b']?:=λb' hb=>⟨hb,hwk b' λeb=>(hg.out b' hb).2 id (by rw [eb]; exact hgown)⟩;have hup:=Good.upd (w':=w') (b':=.imap t (AV n 1) (RL get key val)) hg hh trivial trivial hidb hwk hsz ⟨b,ob',q1,p1,p2⟩;unfold Oper.wp;rw [hrun,hc];exact hp κ S undef w' hup.1 (VR.mono_go hS _ _ _ _ (λ_ _ h=>h) ht) rfl (Ext.upd hg hh trivial trivial hidb hwk hsz (by rw [hw']; rfl) (by rw [hw']; rfl) (by rw [hw']; rfl) hup.2 (λ_ _ _ _=>by simp) (λ_ _ _ _ h=>by cases h))
    ·cases h
   ·cases h
  ·cases h
 ·cases h
end
end Go.Sy
