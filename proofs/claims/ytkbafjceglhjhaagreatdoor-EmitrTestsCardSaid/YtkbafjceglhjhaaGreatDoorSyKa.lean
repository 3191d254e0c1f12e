/-
  Own maps of numbers by numbers: made, looked up, written. Conditions: the table is the program's.
-/
import Derived.Test.YtkbafjceglhjhaaGreatDoorSyK
import Derived.Maps.Views
import Derived.Maps.OwnSet
import Derived.Carry
namespace Go.Sy
section
variable {P:Program} {τ:List Ty} (hτ:TabOK P τ) {Γ:Cx0} {S:Nat->Prop} {w:World} {κ:Ax} {st:St} {a:Act} {o:Oper}
 {K:Act->World->Prop} {Q:Exit->Act->World->Prop} {r:V×St}
theorem QW (hP:P=Nu) {t k e:TypeId} (ht:P.underlying t=some (.map k e)) {b n:Nat} {ob:Obj} {get:Int->Int} (hb:w.heap[b]? = some ob) (h:XN t n get ob) :
  ∃ D:DataW Unit,w.ownsMap P k (plainElem P e) b n D∧∀ x,(Lit.int .i64 x).wf=true->D.atKey (.int .i64 x) (.lit (.int .i64 0)) = .lit (.int .i64 (get x)):=by
 subst hP;unfold XN at h;rw [ht] at h;obtain ⟨es,clock,rfl,F,hs,hg⟩:=h;exact ⟨_,⟨es,clock,hb,F,hs,rfl⟩,hg⟩
theorem QR (hP:P=Nu) {t k e:TypeId} (ht:P.underlying t=some (.map k e)) {b n:Nat} {get:Int->Int} {D:DataW Unit} (h:w.ownsMap P k (plainElem P e) b n D)
  (hg:∀ x,(Lit.int .i64 x).wf=true->D.atKey (.int .i64 x) (.lit (.int .i64 0)) = .lit (.int .i64 (get x))):∃ ob,w.heap[b]? = some ob∧XN t n get ob:=by
 subst hP;obtain ⟨es,clock,hb,F,hs,rfl⟩:=h;refine ⟨_,hb,?_⟩;unfold XN;rw [ht];exact ⟨es,clock,rfl,F,hs,hg⟩
theorem TJ {D:DataW Unit} {k:Lit} (h:Maps.has D k=true) (z z':DataW Unit):D.atKey k z=D.atKey k z':=by
 cases D <;> try (first | rfl | (cases h; done))
 rename_i es;obtain ⟨p,hp,hpk⟩:=List.any_eq_true.1 h;obtain ⟨x,hx⟩:=Option.isSome_iff_exists.1 (List.find?_isSome.2 ⟨p,hp,hpk⟩:(es.find? (λp=>p.1.sameKey k)).isSome=true);simp [DataW.atKey,hx]
theorem Aaj (hP:P=Nu) {t k e:TypeId} (ht:P.underlying t=some (.map k e)) {b n:Nat} {ob:Obj} {hs:Int->Bool} {get:Int->Int} (hb:w.heap[b]? = some ob) (h:Qy t n hs get ob) :
  (∀ x,hs x=false->get x=0)∧∃ D:DataW Unit,w.ownsMap P k (plainElem P e) b n D∧Maps.size D=n∧∀ x,(Lit.int .i64 x).wf=true->Maps.has D (.int .i64 x)=hs x∧D.atKey (.int .i64 x) (.lit (.int .i64 0)) = .lit (.int .i64 (get x)):=by
 subst hP;unfold Qy at h;rw [ht] at h;obtain ⟨es,clock,rfl,F,hn,h0,hg⟩:=h;refine ⟨h0,_,⟨es,clock,hb,F,Nat.le_of_eq hn,rfl⟩,by rw [<- hn]; simp [Maps.size,length_sorted],λx hx=>?_⟩;have:=hg x hx;cases hh:hs x
 ·rw [hh] at this
  exact ⟨Maps.has_false_of_atKey this,by rw [this,h0 x hh]; rfl⟩
 ·rw [hh] at this
  exact ⟨Maps.has_true_of_atKey this,this _⟩
theorem ZZ (hP:P=Nu) {t k e:TypeId} (ht:P.underlying t=some (.map k e)) {b n' n:Nat} {hs:Int->Bool} {get:Int->Int} {D:DataW Unit} (h:w.ownsMap P k (plainElem P e) b n' D) (hn:Maps.size D=n) (h0:∀ x,hs x=false->get x=0)
  (hg:∀ x,(Lit.int .i64 x).wf=true->Maps.has D (.int .i64 x)=hs x∧D.atKey (.int .i64 x) (.lit (.int .i64 0)) = .lit (.int .i64 (get x))):∃ ob,w.heap[b]? = some ob∧Qy t n hs get ob:=by
 subst hP;obtain ⟨es,clock,hb,F,hs',rfl⟩:=h;refine ⟨_,hb,?_⟩;unfold Qy;rw [ht];refine ⟨es,clock,rfl,F,by rw [<- hn]; simp [Maps.size,length_sorted],h0,λx hx d=>?_⟩;obtain ⟨q1,q2⟩:=hg x hx;cases hh:hs x
 ·rw [hh] at q1
  exact Maps.atKey_of_not_has q1 d
 ·rw [hh] at q1
  rw [TJ q1 d (.lit (.int .i64 0)),q2];rfl
theorem TI (hP:P=Nu) (hg:Good κ S st.h w) {id i:Nat} {cm:Value} (hm:VR S w (.mmap id i) κ cm) {j:Jag} {q:Mp} (hh:st.h[id]? = some (.jag j)) (hq:j.mp=some q) (hl:q.live i=true) {k e:TypeId} (ht:P.underlying q.t=some (.map k e)) :
  ∃ (c:Value) (ms:Array Value) (xs:List Value) (b:Nat),κ id=some (.tuple #[c,.agg ms])∧H2 S w j c ms xs∧ms[j.n+i]? = some (.map (some b))∧cm = .map (some b)∧(∀ x,q.hs i x=false->q.get i x=0) ∧
   ∃ D:DataW Unit,w.ownsMap P k (plainElem P e) b (q.len i) D∧Maps.size D=q.len i∧∀ x,(Lit.int .i64 x).wf=true->Maps.has D (.int .i64 x)=q.hs i x∧D.atKey (.int .i64 x) (.lit (.int .i64 0)) = .lit (.int .i64 (q.get i x)):=by
 obtain ⟨c,ms,xs,hk,hj⟩:=Cp hg hh;obtain ⟨c',ms',hk',hm',_⟩:=hm;rw [hk] at hk';obtain ⟨rfl,rfl⟩:=AP hk';rw [(hj.half hq).1] at hm';have hM:=(hj.map hq hm').2;rw [hl] at hM;obtain ⟨b,ob,rfl,hb,hX⟩:=hM;exact ⟨c,ms,xs,b,hk,hj,hm',rfl,Aaj hP ht hb hX⟩
theorem EK {x:Int} (h:Ej x=true):(Lit.int .i64 x).wf=true:=by
 simp only [Ej,Bool.and_eq_true,decide_eq_true_eq] at h;simp [Lit.wf,IntKind.min,IntKind.max,IntKind.bits,IntKind.signed];omega
include hτ in
theorem LZ {e:TypeId} (h:TS τ e=true) (w:World):(zeroValue e).run P w = .ok (.int .i64 0) w:=by
 unfold TS at h;split at h
 ·rename_i te hte
  obtain ⟨i,_,hi,_,_,_,_,hz,_⟩:=hτ.info hte;split at h
  ·rename_i hz0
   rw [hz0] at hz;cases hi0:i.zero with
   | none=>rw [hi0] at hz; cases hz
   | some z =>rw [hi0] at hz;have hv:VR (λ_=>False) w (ofValue z) noK z:=CY z;rw [<- show V.val (.int .i64 (.ofNat 0))=ofValue z from hz] at hv;have:z = .int .i64 0:=hv;subst this;simp only [zeroValue,typeInfo,Sem.run_bind,run_program,Result.andThen_ok,hi,hi0,Sem.run_pure]
  ·cases h
 ·cases h
include hτ in
theorem Aaq (hg:Good κ S st.h w) {t:TypeId} {m x:V} {cm cx:Value} (hm:VR S w m κ cm) (hx:VR S w x κ cx)
  (hrun:(execOp a.eval o).run P w=((Instr.lookup t cm cx false).run P w).andThen λv w'=>.ok (.value v) w') {v:V}
  (h:(SJ τ st t m x).sem=some v):IC P a o S w κ v:=by
 unfold SJ at h;split at h
 ·rename_i ty hty
  obtain ⟨_,d,_,hd,hk,_⟩:=hτ.info hty;split at h
  ·rename_i e id key hkk
   rw [hkk] at hk;obtain ⟨k,rfl,h1,h2⟩:=Fy hk.symm;split at h
   ·rename_i t' n get hh hz
    split at h
    ·rename_i hbt
     have hbt:=Nat.eq_of_beq_eq_true hbt;subst hbt;obtain ⟨hf,h⟩:=Ac h;obtain ⟨b,ob,q1,q2,q3⟩:=hg.blk id _ hh;obtain ⟨hm1,_⟩:=hm;rw [q1] at hm1;simp at hm1;subst hm1;obtain ⟨D,own,hat⟩:=QW hτ.same hd q2 q3;have hx:cx = .int .i64 key:=hx;subst hx;obtain ⟨c,hc,hat2,_⟩:=own.lookup_int (Maps.int_keyed h1) hd h2 (LZ hτ hz w) (Maps.keyOf_int_mk h1 (EK hf));rw [hat key (EK hf)] at hat2;have e:get key=c:=by simpa using hat2
     rw [Ab h,e];exact ⟨_,by rw [hrun,hc]; rfl,rfl⟩
    ·cases h
   ·cases h
  ·rename_i e id i key hkk
   rw [hkk] at hk;obtain ⟨k,rfl,h1,h2⟩:=Fy hk.symm;split at h
   ·rename_i j hh hz
    split at h
    ·rename_i q hq
     split at h
     ·rename_i hbt
      have hbt:=Nat.eq_of_beq_eq_true hbt;subst hbt;obtain ⟨hl,h⟩:=Ac h;obtain ⟨hf,h⟩:=Ac h;obtain ⟨_,_,_,b,_,_,_,rfl,_,D,own,_,hat⟩:=TI hτ.same hg hm hh hq hl hd;have hx:cx = .int .i64 key:=hx;subst hx;obtain ⟨c,hc,hat2,_⟩:=own.lookup_int (Maps.int_keyed h1) hd h2 (LZ hτ hz w) (Maps.keyOf_int_mk h1 (EK hf));rw [(hat key (EK hf)).2] at hat2;have e:q.get i key=c:=by simpa using hat2
      rw [Ab h,e];exact ⟨_,by rw [hrun,hc]; rfl,rfl⟩
     ·cases h
    ·cases h
   ·cases h
  ·cases h
 ·cases h
include hτ in
theorem Xc (hg:Good κ S st.h w) {t:TypeId} {m x:V} {cm cx:Value} (hm:VR S w m κ cm) (hx:VR S w x κ cx)
  (hrun:(execOp a.eval o).run P w=((Instr.lookup t cm cx true).run P w).andThen λv w'=>.ok (.value v) w') {v:V}
  (h:(SK τ st t m x).sem=some v):IC P a o S w κ v:=by
 unfold SK at h;split at h
 ·rename_i ty hty
  obtain ⟨_,d,_,hd,hk,_⟩:=hτ.info hty;split at h
  ·rename_i e id i key hkk
   rw [hkk] at hk;obtain ⟨k,rfl,h1,h2⟩:=Fy hk.symm;split at h
   ·rename_i j hh hz
    split at h
    ·rename_i q hq
     split at h
     ·rename_i hbt
      have hbt:=Nat.eq_of_beq_eq_true hbt;subst hbt;obtain ⟨hl,h⟩:=Ac h;obtain ⟨hf,h⟩:=Ac h;obtain ⟨_,_,_,b,_,_,_,rfl,_,D,own,_,hat⟩:=TI hτ.same hg hm hh hq hl hd;have hx:cx = .int .i64 key:=hx;subst hx;obtain ⟨v0,ps,hc,hv⟩:=own.look_ok (Maps.int_keyed h1) hd (LZ hτ hz w) (plainElem_int h2 (by decide)) (Maps.keyOf_int_mk h1 (EK hf));obtain ⟨c,rfl,hc2,_⟩:=plainElem_int_inv h2 hv;obtain ⟨q1,q2⟩:=hat key (EK hf);rw [q2] at hc2;have e:q.get i key=c:=by simpa using congrArg Prod.fst hc2
      rw [q1] at hc;rw [Ab h,e];exact ⟨_,by rw [hrun,hc]; rfl,⟨[.int .i64 c,.bool (q.hs i key)],rfl,_,_,rfl,rfl,_,_,rfl,rfl,rfl⟩⟩
     ·cases h
    ·cases h
   ·cases h
  ·cases h
 ·cases h
theorem AaB {t k e:TypeId} (hd:P.underlying t=some (.map k e)) (b:Option Nat):(binOp .eql t (.map b) (.map none)).run P w = .ok (.bool b.isNone) w:=by
 show ((Op.equalIn 10000 t (.map b) (.map none)) >>= λr=>pure (.bool r):Sem Value).run P w=_;have:(Op.equalIn 10000 t (.map b) (.map none)).run P w = .ok b.isNone w:=by
  rw [show (10000:Nat)=9999+1 from rfl,Op.equalIn];rw [Sem.run_bind,run_underlying hd w];cases b <;> rfl
 rw [Sem.run_bind,this];rfl
theorem Aaf {t k e:TypeId} (hd:P.underlying t=some (.map k e)) (b:Option Nat):(binOp .neq t (.map b) (.map none)).run P w = .ok (.bool (!b.isNone)) w:=by
 show ((Op.equalIn 10000 t (.map b) (.map none)) >>= λr=>pure (.bool (!r)):Sem Value).run P w=_;have:(Op.equalIn 10000 t (.map b) (.map none)).run P w = .ok b.isNone w:=by
  rw [show (10000:Nat)=9999+1 from rfl,Op.equalIn];rw [Sem.run_bind,run_underlying hd w];cases b <;> rfl
 rw [Sem.run_bind,this];rfl
include hτ in
theorem Zr (hg:Good κ S st.h w) {op:BinOp} {t:Nat} {lit:Bool} {x y v:V} {cx cy:Value} (h:(AmI τ st op t lit x y).sem=some v) (hx:VR S w x κ cx) (hy:VR S w y κ cy) (xo yo:Operand) :
  ∃ c,(do eqGuard op t xo yo cx cy; binOp op t cx cy:Sem Value).run P w = .ok c w∧VR S w v κ c:=by
 unfold AmI at h;split at h
 ·rename_i id i
  have hy:cy = .map none:=hy;subst hy;split at h
  ·rename_i j hh
   split at h
   ·rename_i q hq hmt
    have hd:∃ k e,P.underlying t=some (.map k e):=by
     unfold AiT at hmt;split at hmt
     ·rename_i ty hty
      obtain ⟨_,d,_,hd,hk,_⟩:=hτ.info hty;split at hmt
      ·rename_i e hkk
       rw [hkk] at hk;obtain ⟨k,rfl,_⟩:=Fy hk.symm;exact ⟨k,e,hd⟩
      ·cases hmt
     ·cases hmt
    obtain ⟨k,e,hd⟩:=hd;obtain ⟨c,ms,xs,hk,hj⟩:=Cp hg hh;obtain ⟨c',ms',hk',hm',_⟩:=hx;rw [hk] at hk';obtain ⟨rfl,rfl⟩:=AP hk';rw [(hj.half hq).1] at hm';have hM:=(hj.map hq hm').2;have hb:∃ b,cx = .map b∧b.isNone=!(q.live i):=by
     split at hM
     ·rename_i hl
      obtain ⟨b,_,rfl,_⟩:=hM;exact ⟨some b,rfl,by rw [hl]; rfl⟩
     ·rename_i hl
      exact ⟨none,hM,by rw [hl]; rfl⟩
    obtain ⟨b,rfl,hbn⟩:=hb;split at h
    ·rw [Ab h]
     refine ⟨_,by rw [Sem.run_bind]; exact AaB hd b,?_⟩;rw [hbn];cases q.live i <;> rfl
    ·rw [Ab h]
     refine ⟨_,by rw [Sem.run_bind]; exact Aaf hd b,?_⟩;rw [hbn];cases q.live i <;> rfl
    ·cases h
   ·cases h
  ·cases h
 ·exact AhS hτ h hx hy xo yo
include hτ in
theorem WV (hg:Good κ S st.h w) (ht:VRs S w st.t κ a.tmps.toList) {t:TypeId}
  (hrun:(execOp a.eval o).run P w=((Instr.makeMap t none).run P w).andThen λv w'=>.ok (.value v) w')
  (h:(OL τ st t).sem=some r) (hp:Fg a o κ S st w K r):o.wp P a w K Q:=by
 unfold OL at h;split at h
 ·rename_i ty hty
  obtain ⟨_,d,_,hd,hk,_⟩:=hτ.info hty;split at h
  ·rename_i e hkk
   rw [hkk] at hk;obtain ⟨k,rfl,h1,h2⟩:=Fy hk.symm;have own:=World.ownsMap_made (H:=Unit) w P k (plainElem P e);obtain ⟨ob,q1,q2⟩:=QR (get:=λ_=>0) hτ.same hd own λx _=>rfl;have hrun':(execOp a.eval o).run P w = .ok (.value (.map (some w.heap.size))) (w.alloc (.map #[] 0)):=by
    rw [hrun];rfl
   refine OC (v:=V.ref) hg ht hrun' (CX w _) (by simp) rfl rfl rfl ?_ (.inr rfl) ⟨by simp [Bp],.inr ⟨_,rfl⟩⟩ h hp;exact ⟨w.heap.size,ob,rfl,q1,q2⟩
  ·cases h
 ·cases h
include hτ in
theorem Aal (hg:Good κ S st.h w) (ht:VRs S w st.t κ a.tmps.toList) {t:TypeId} {m x y:V} {cm cx cy:Value} (hm:VR S w m κ cm) (hx:VR S w x κ cx) (hy:VR S w y κ cy)
  (hrun:(execOp a.eval o).run P w=((Instr.mapUpdate t cm cx cy).run P w).andThen λ_ w'=>.ok .skip w')
  (h:(SD τ st t m x y).sem=some r) (hp:Fg a o κ S st w K r):o.wp P a w K Q:=by
 unfold SD at h;split at h
 ·rename_i ty hty
  obtain ⟨_,d,_,hd,hk,_⟩:=hτ.info hty;split at h
  ·rename_i e id key val hkk
   rw [hkk] at hk;obtain ⟨k,rfl,h1,h2⟩:=Fy hk.symm;split at h
   ·rename_i t' n get hh
    split at h
    ·rename_i hbt
     have hbt:=Nat.eq_of_beq_eq_true hbt;subst hbt;obtain ⟨hn,h⟩:=Ac h;obtain ⟨hf,h⟩:=Ac h;obtain ⟨hf2,h⟩:=Ac h;have hn:n<4611686018427387904:=of_decide_eq_true hn;have hr:=Ab h;subst hr;obtain ⟨b,ob,q1,q2,q3⟩:=hg.blk id _ hh;obtain ⟨hm1,_⟩:=hm;rw [q1] at hm1;simp at hm1;subst hm1;obtain ⟨D,own,hat⟩:=QW hτ.same hd q2 q3;have hx:cx = .int .i64 key:=hx;subst hx;have hy:cy = .int .i64 val:=hy;subst hy;obtain ⟨w',hc,own',hgr⟩:=own.store (Maps.int_keyed h1) hd (by unfold maxLen; omega) (Maps.keyOf_int_mk h1 (EK hf)) (plainElem_int h2 (EK hf2));have hmap:Maps.IsMap D:=by
      obtain ⟨_,_,_,_,_,e⟩:=own;exact ⟨_,e⟩
     obtain ⟨ob',p1,p2⟩:=QR (get:=Hj get key val) hτ.same hd own' λx hx=>by
      unfold Hj sel ieq;by_cases hxk:x=key
      ·subst hxk
       rw [Maps.atKey_put_same hmap (show WideAt.IsKeyLit (.int .i64 x) from trivial)];simp
      ·rw [Maps.atKey_put_other (by intro h; simp at h; exact hxk h),hat x hx]
       have:(x == key)=false:=by simpa using hxk
       rw [this];rfl
     obtain ⟨_,_,_,_,hsb,hw'⟩:=hgr;have hidb:Ar (κ id)=some b:=by rw [q1]; rfl
     have hgown:AL κ st.h id b:=(Az hh).2 hidb;have hwk:∀ k,k ≠ b->w'.heap[k]? = w.heap[k]?:=λk hk=>by rw [hw']; exact ChangeMaps.heap_setBlock_other hsb _ hk
     have hsz:w'.heap.size=w.heap.size:=by rw [hw']; simp [ChangeMaps.setBlock]
     have hS:∀ b',S b'->S b'∧w'.heap[b']? = w.heap[b']?:=λb' hb=>⟨hb,hwk b' λeb=>(hg.out b' hb).2 id (by rw [eb]; exact hgown)⟩;have hup:=Good.upd (w':=w') (b':=.imap t (AE n 1) (Hj get key val)) hg hh trivial trivial hidb hwk hsz ⟨b,ob',q1,p1,p2⟩;unfold Oper.wp;rw [hrun,hc];exact hp κ S undef w' hup.1 (VR.mono_go hS _ _ _ _ (λ_ _ h=>h) ht) rfl (Ext.upd hg hh trivial trivial hidb hwk hsz (by rw [hw']; rfl) (by rw [hw']; rfl) (by rw [hw']; rfl) hup.2 (λ_ _ _ _=>by simp) (λ_ _ _ _ h=>by cases h))
    ·cases h
   ·cases h
  ·rename_i e id i key val hkk
   rw [hkk] at hk;obtain ⟨k,rfl,h1,h2⟩:=Fy hk.symm;split at h
   ·rename_i j hh
    split at h
    ·rename_i q hq
     split at h
     ·rename_i hbt
      have hbt:=Nat.eq_of_beq_eq_true hbt;subst hbt;obtain ⟨hin,h⟩:=Ac h;obtain ⟨hl,h⟩:=Ac h;obtain ⟨hn,h⟩:=Ac h;obtain ⟨hf,h⟩:=Ac h;obtain ⟨hf2,h⟩:=Ac h;have hn:q.len i<4611686018427387904:=of_decide_eq_true hn;have hr:=Ab h;subst hr;obtain ⟨c,ms,xs,b,hk0,hj,hmi,rfl,h0,D,own,hsz0,hat⟩:=TI hτ.same hg hm hh hq hl hd;have hx:cx = .int .i64 key:=hx;subst hx;have hy:cy = .int .i64 val:=hy;subst hy;obtain ⟨w',hc,own',hgr⟩:=own.store (Maps.int_keyed h1) hd (by unfold maxLen; omega) (Maps.keyOf_int_mk h1 (EK hf)) (plainElem_int h2 (EK hf2));have hmap:Maps.IsMap D:=by
       obtain ⟨_,_,_,_,_,e⟩:=own;exact ⟨_,e⟩
      have hsz':Maps.size (D.put (.int .i64 key) (.lit (.int .i64 val)))=sel (q.hs i key) (q.len i) (AE (q.len i) 1):=by
       rw [Maps.size_put (own.tidy (Maps.int_keyed h1)),(hat key (EK hf)).1,hsz0];cases q.hs i key <;> rfl
      obtain ⟨ob',p1,p2⟩:=ZZ (hs:=λx=>sel (ieq x key) true (q.hs i x)) (get:=Hj (q.get i) key val) hτ.same hd own' hsz' (λx hx=>by
       unfold Hj;cases he:ieq x key
       ·rw [he] at hx
        exact h0 x hx
       ·rw [he] at hx
        cases hx) λx hx=>by
       unfold Hj sel ieq;by_cases hxk:x=key
       ·subst hxk
        rw [Maps.atKey_put_same hmap (show WideAt.IsKeyLit (.int .i64 x) from trivial),Maps.has_put_same hmap (show WideAt.IsKeyLit (.int .i64 x) from trivial)];simp
       ·have hne:Lit.int .i64 x ≠ .int .i64 key:=by intro h; simp at h; exact hxk h
        rw [Maps.atKey_put_other hne,Maps.has_put_other hne,(hat x hx).1,(hat x hx).2];have:(x == key)=false:=by simpa using hxk
        rw [this];exact ⟨rfl,rfl⟩
      obtain ⟨_,_,_,_,hsb,hw'⟩:=hgr;have htop:inBlk (κ id) b (.jag j):=by rw [hk0]; exact Ch hmi rfl
      have hwk:∀ k,k ≠ b->w'.heap[k]? = w.heap[k]?:=λk hk=>by rw [hw']; exact ChangeMaps.heap_setBlock_other hsb _ hk
      have hsz:w'.heap.size=w.heap.size:=by rw [hw']; simp [ChangeMaps.setBlock]
      have hS:∀ b',S b'->S b'∧w'.heap[b']? = w.heap[b']?:=λb' hb=>⟨hb,hwk b' λeb=>(hg.out b' hb).2 id (by rw [eb]; exact (Az hh).2 htop)⟩;obtain ⟨g1,g2,g3,g4,g5,g6,g7,g8,g9⟩:=hj;have hup:=Good.upd' (w':=w') (b':=.jag { j with mp:=some { q with len:=Dm q.len i (sel (q.hs i key) (q.len i) (AE (q.len i) 1)),hs:=Ee q.hs i λx=>sel (ieq x key) true (q.hs i x),get:=Ee q.get i (Hj (q.get i) key val) } }) hg hh (λk hk=>hk) (λk hk _=>hwk k λe=>hk (by rw [e]; exact htop)) (Nat.le_of_eq hsz.symm)
       ⟨_,ms,xs,hk0,g1,g2,⟨g3.1,λu hu=>by cases hu; exact g3.2 q hq⟩,by unfold mpN at g4 ⊢; rw [hq] at g4; exact g4,Ce g5 λg hg2=>hwk g λe=>(g9 _ _ b hmi rfl).1 (by rw [hg2,e]),g6,λk hkn=>?_,λk m hm=>?_,g9⟩
      ·unfold Oper.wp
       rw [hrun,hc];exact hp κ S undef w' hup.1 (VR.mono_go hS _ _ _ _ (λ_ _ h=>h) ht) rfl (Ext.upd' hg hh rfl (λk hk _=>hwk k λe=>hk (by rw [e]; exact htop)) (Nat.le_of_eq hsz.symm) (by rw [hw']; rfl) (by rw [hw']; rfl) (by rw [hw']; rfl) hup.2 (λ_ _ _ _ h=>by cases h)
        (λhf=>absurd hf (B5 _)))
      ·obtain ⟨ck,z1,z2,z3,z4⟩:=g7 k hkn
       exact ⟨ck,VR.mono hS _ _ _ _ (λ_ _ h=>h) z1,z2,z3,λp hp hpo hpm=>z4 p hp hpo λu hu=>by
        rw [hq] at hu;cases hu;have:=hpm _ rfl;exact this⟩
      ·by_cases eki:k=j.n+i
       ·subst eki
        rw [hmi] at hm;cases hm;refine .inr ⟨_,i,rfl,rfl,?_⟩;rcases g8 _ _ hmi with ⟨hi2,_⟩ | ⟨u,k2,h81,h82,h8⟩
        ·omega
        ·rw [hq] at h81
         cases h81;obtain rfl:i=k2:=by omega
         refine ⟨h8.1,?_⟩;show match q.live i with | true=>_ | false=>_
         rw [hl];refine ⟨b,ob',rfl,p1,?_⟩;show Qy _ (Dm q.len i _ i) (Ee q.hs i _ i) (Ee q.get i _ i) ob';rw [Gc,Jv,Jv];exact p2
       ·have hb:∀ g,Ar (some m)=some g->w'.heap[g]? = w.heap[g]?:=λg hg2=>hwk g λe=>(g9 _ _ b hmi rfl).2 k m eki hm (by rw [hg2,e])
        rcases g8 k m hm with ⟨hkn,h8⟩ | ⟨u,k2,h81,rfl,h8⟩
        ·exact .inl ⟨hkn,h8.re hS hb rfl rfl rfl rfl rfl rfl rfl rfl⟩
        ·rw [hq] at h81
         cases h81;have hki:k2 ≠ i:=λe=>eki (by rw [e]);exact .inr ⟨_,k2,rfl,rfl,h8.re hb rfl rfl rfl rfl (N7 hki) (N8 hki) (N8 hki) rfl⟩
     ·cases h
    ·cases h
   ·cases h
  ·cases h
 ·cases h
end
end Go.Sy
