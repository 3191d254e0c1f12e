/-
  Own maps of numbers by numbers: made, looked up, written. Conditions: the table is the program's.
-/
import Derived.Test.YtkbgidbledjejaaGreatSyK
import Derived.Maps.Views
import Derived.Maps.OwnSet
import Derived.Carry
namespace Go.Sy
section
variable {P:Program} {τ:List Ty} (hτ:TabOK P τ) {Γ:Cx0} {S:Nat->Prop} {w:World} {κ:Ai} {st:St} {a:Act} {o:Oper}
 {K:Act->World->Prop} {Q:Exit->Act->World->Prop} {r:V×St}
theorem S8 (hP:P=Is) {t k e:TypeId} (ht:P.underlying t=some (.map k e)) {b n:Nat} {ob:Obj} {get:Int->Int} (hb:w.heap[b]? = some ob) (h:Yz t n get ob) :
  ∃ D:DataW Unit,w.ownsMap P k (plainElem P e) b n D∧∀ x,(Lit.int .i64 x).wf=true->D.atKey (.int .i64 x) (.lit (.int .i64 0)) = .lit (.int .i64 (get x)):=by
 subst hP;unfold Yz at h;rw [ht] at h;obtain ⟨es,clock,rfl,F,hs,hg⟩:=h;exact ⟨_,⟨es,clock,hb,F,hs,rfl⟩,hg⟩
theorem S3 (hP:P=Is) {t k e:TypeId} (ht:P.underlying t=some (.map k e)) {b n:Nat} {get:Int->Int} {D:DataW Unit} (h:w.ownsMap P k (plainElem P e) b n D)
  (hg:∀ x,(Lit.int .i64 x).wf=true->D.atKey (.int .i64 x) (.lit (.int .i64 0)) = .lit (.int .i64 (get x))):∃ ob,w.heap[b]? = some ob∧Yz t n get ob:=by
 subst hP;obtain ⟨es,clock,hb,F,hs,rfl⟩:=h;refine ⟨_,hb,?_⟩;unfold Yz;rw [ht];exact ⟨es,clock,rfl,F,hs,hg⟩
theorem UD {D:DataW Unit} {k:Lit} (h:Maps.has D k=true) (z z':DataW Unit):D.atKey k z=D.atKey k z':=by
 cases D <;> try (first | rfl | (cases h; done))
 rename_i es;obtain ⟨p,hp,hpk⟩:=List.any_eq_true.1 h;obtain ⟨x,hx⟩:=Option.isSome_iff_exists.1 (List.find?_isSome.2 ⟨p,hp,hpk⟩:(es.find? (λp=>p.1.sameKey k)).isSome=true);simp [DataW.atKey,hx]
theorem Aa7 (hP:P=Is) {t k e:TypeId} (ht:P.underlying t=some (.map k e)) {b n:Nat} {ob:Obj} {hs:Int->Bool} {get:Int->Int} (hb:w.heap[b]? = some ob) (h:RP t n hs get ob) :
  (∀ x,hs x=false->get x=0)∧∃ D:DataW Unit,w.ownsMap P k (plainElem P e) b n D∧Maps.size D=n∧∀ x,(Lit.int .i64 x).wf=true->Maps.has D (.int .i64 x)=hs x∧D.atKey (.int .i64 x) (.lit (.int .i64 0)) = .lit (.int .i64 (get x)):=by
 subst hP;unfold RP at h;rw [ht] at h;obtain ⟨es,clock,rfl,F,hn,h0,hg⟩:=h;refine ⟨h0,_,⟨es,clock,hb,F,Nat.le_of_eq hn,rfl⟩,by rw [<- hn]; simp [Maps.size,length_sorted],λx hx=>?_⟩;have:=hg x hx;cases hh:hs x
 ·rw [hh] at this
  exact ⟨Maps.has_false_of_atKey this,by rw [this,h0 x hh]; rfl⟩
 ·rw [hh] at this
  exact ⟨Maps.has_true_of_atKey this,this _⟩
theorem Aaw (hP:P=Is) {t k e:TypeId} (ht:P.underlying t=some (.map k e)) {b n' n:Nat} {hs:Int->Bool} {get:Int->Int} {D:DataW Unit} (h:w.ownsMap P k (plainElem P e) b n' D) (hn:Maps.size D=n) (h0:∀ x,hs x=false->get x=0)
  (hg:∀ x,(Lit.int .i64 x).wf=true->Maps.has D (.int .i64 x)=hs x∧D.atKey (.int .i64 x) (.lit (.int .i64 0)) = .lit (.int .i64 (get x))):∃ ob,w.heap[b]? = some ob∧RP t n hs get ob:=by
 subst hP;obtain ⟨es,clock,hb,F,hs',rfl⟩:=h;refine ⟨_,hb,?_⟩;unfold RP;rw [ht];refine ⟨es,clock,rfl,F,by rw [<- hn]; simp [Maps.size,length_sorted],h0,λx hx d=>?_⟩;obtain ⟨q1,q2⟩:=hg x hx;cases hh:hs x
 ·rw [hh] at q1
  exact Maps.atKey_of_not_has q1 d
 ·rw [hh] at q1
  rw [UD q1 d (.lit (.int .i64 0)),q2];rfl
theorem UC (hP:P=Is) (hg:Good κ S st.h w) {id i:Nat} {cm:Value} (hm:VR S w (.mmap id i) κ cm) {j:Jag} {q:Mp} (hh:st.h[id]? = some (.jag j)) (hq:j.mp=some q) (hl:q.live i=true) {k e:TypeId} (ht:P.underlying q.t=some (.map k e)) :
  ∃ (c:Value) (ms:Array Value) (xs:List Value) (b:Nat),κ id=some (.tuple #[c,.agg ms])∧HH S w j c ms xs∧ms[j.n+i]? = some (.map (some b))∧cm = .map (some b)∧(∀ x,q.hs i x=false->q.get i x=0) ∧
   ∃ D:DataW Unit,w.ownsMap P k (plainElem P e) b (q.len i) D∧Maps.size D=q.len i∧∀ x,(Lit.int .i64 x).wf=true->Maps.has D (.int .i64 x)=q.hs i x∧D.atKey (.int .i64 x) (.lit (.int .i64 0)) = .lit (.int .i64 (q.get i x)):=by
 obtain ⟨c,ms,xs,hk,hj⟩:=Cd hg hh;obtain ⟨c',ms',hk',hm',_⟩:=hm;rw [hk] at hk';obtain ⟨rfl,rfl⟩:=AC hk';rw [(hj.half hq).1] at hm';have hM:=(hj.map hq hm').2;rw [hl] at hM;obtain ⟨b,ob,rfl,hb,hX⟩:=hM;exact ⟨c,ms,xs,b,hk,hj,hm',rfl,Aa7 hP ht hb hX⟩
theorem EN {x:Int} (h:IM x=true):(Lit.int .i64 x).wf=true:=by
 simp only [IM,Bool.and_eq_true,decide_eq_true_eq] at h;simp [Lit.wf,IntKind.min,IntKind.max,IntKind.bits,IntKind.signed];omega
theorem KR {x y:Key} (h:DL x=DL y):x=y:=by
 cases x <;> cases y <;> simp [DL] at h
 ·rw [h]
 ·rw [h]
theorem Kg {x y:Key}:keq x y=true↔x=y:=by
 cases x <;> cases y <;> simp [keq,ieq,seq]
theorem Aeb {s:Bool} {k:TypeId} (h:Abw P s k):Maps.Keyed P k:=by
 cases s
 ·exact Maps.int_keyed h
 ·exact Maps.string_keyed h
theorem VB {s:Bool} {x:V} {key:Key} {cx:Value} (h:AaK s x=some key) (hx:VR S w x κ cx):cx=DL key:=by
 unfold AaK at h;split at h
 ·cases h
  exact hx
 ·cases h
  exact hx
 ·cases h
theorem VC (hP:P=Is) {s:Bool} {k:TypeId} (hk:Abw P s k) {x:V} {key:Key} (h:AaK s x=some key) (hf:XF key=true):WC k key:=by
 subst hP;unfold AaK at h;split at h
 ·cases h
  exact ⟨_,Maps.keyOf_int_mk hk (EN hf)⟩
 ·cases h
  have hf:Y7 _ []=true:=hf;have hf:=of_decide_eq_true hf;exact ⟨_,WideMaps.keyOf_string_mk hk (by simpa [ByteArray.size,maxLen] using hf)⟩
 ·cases h
theorem AaS (hP:P=Is) {t k e:TypeId} (ht:P.underlying t=some (.map k e)) {s:Bool} (hk:Abw P s k) {b:Nat} {ob:Obj} {hs:Key->Bool} {get:Key->V} (hb:w.heap[b]? = some ob) (hR:Iq S w t hs get ob) {key:Key} (hf:WC k key)
  {zv:V} {z:Value} (hz:(zeroValue e).run P w = .ok z w) (hzv:VR S w zv noK z) (ok:Bool) :
  ∃ c,VR S w (Ry (hs key) (get key) zv) noK c∧(Instr.lookup t (.map (some b)) (DL key) ok).run P w = .ok (if ok then .tuple #[c,.bool (hs key)] else c) w:=by
 have K:=Aeb hk;subst hP;unfold Iq at hR;rw [ht] at hR;obtain ⟨es,clock,rfl,h2,h3,h4⟩:=hR;obtain ⟨l,hkey⟩:=hf;have hks:∀ x ∈ es.toList,∃ l,keyOf Is k x.key=some l:=λx hx=>by
  obtain ⟨i,hi⟩:=List.getElem?_of_mem hx;obtain ⟨y,q1,⟨l,q2⟩,_⟩:=h3 i x (by rw [<- Array.getElem?_toList]; exact hi);exact ⟨l,by rw [q1]; exact q2⟩
 rcases K.find w hkey es.toList hks with ⟨g1,g2⟩ | ⟨j,e0,g1,g2,g3⟩
 ·have hh:hs key=false:=by
   cases hh:hs key with
   | false=>rfl
   | true =>obtain ⟨i,x,q1,q2⟩:=h4 key ⟨l,hkey⟩ hh;exact absurd q2 (g2 x (List.mem_of_getElem? (by rw [Array.getElem?_toList]; exact q1)))
  rw [hh,Et];exact ⟨z,hzv,by simp [Instr.lookup,run_underlying ht,MapKept.run_getObj_map hb,K.check w _ hkey,g1,hz,Result.andThen]⟩
 ·obtain ⟨y,q1,_,q2,q3⟩:=h3 j e0 (by rw [<- Array.getElem?_toList]; exact g2)
  obtain rfl:y=key:=KR (q1.symm.trans g3);rw [q2,Et];exact ⟨e0.val,q3,by simp [Instr.lookup,run_underlying ht,MapKept.run_getObj_map hb,K.check w _ hkey,g1,Result.andThen]⟩
theorem Nc (g:Key->V) (k:Key) (v:V):R1 g k v k=v:=by
 unfold R1;rw [Et,Kg.2 rfl];rfl
theorem KH {g:Key->V} {k x:Key} {v:V} (h:x ≠ k):R1 g k v x=g x:=by
 unfold R1;rw [Et];cases hb:keq x k with
 | true=>exact absurd (Kg.1 hb) h
 | false=>rfl
theorem MS (hs:Key->Bool) (k:Key):P0 hs k k=true:=by
 unfold P0 bor;rw [Kg.2 rfl];rfl
theorem GL {hs:Key->Bool} {k x:Key} (h:x ≠ k):P0 hs k x=hs x:=by
 unfold P0 bor;cases hb:keq x k with
 | true=>exact absurd (Kg.1 hb) h
 | false=>rfl
theorem Aea (hP:P=Is) {t k e:TypeId} (ht:P.underlying t=some (.map k e)) {s:Bool} (hk:Abw P s k) {b:Nat} {ob:Obj} {hs:Key->Bool} {get:Key->V} (hb:w.heap[b]? = some ob) (hR:Iq S w t hs get ob) {key:Key} (hf:WC k key)
  {v:V} {c:Value} (hv:VR S w v noK c) (hS:¬ S b) :
  ∃ ob' w',(Instr.mapUpdate t (.map (some b)) (DL key) c).run P w = .ok () w'∧w'=ChangeMaps.setBlock w b ob'∧(∀ j,j ≠ b->w'.heap[j]? = w.heap[j]?)∧w'.heap[b]? = some ob'∧Iq S w' t (P0 hs key) (R1 get key v) ob':=by
 have K:=Aeb hk;subst hP;unfold Iq at hR;rw [ht] at hR;obtain ⟨es,clock,rfl,h2,h3,h4⟩:=hR;obtain ⟨l,hkey⟩:=hf;have hks:∀ x ∈ es.toList,∃ l,keyOf Is k x.key=some l:=λx hx=>by
  obtain ⟨i,hi⟩:=List.getElem?_of_mem hx;obtain ⟨y,q1,⟨l,q2⟩,_⟩:=h3 i x (by rw [<- Array.getElem?_toList]; exact hi);exact ⟨l,by rw [q1]; exact q2⟩
 have hw:∀ (o:Obj) (b':Nat),S b'->S b'∧(ChangeMaps.setBlock w b o).heap[b']? = w.heap[b']?:=λo b' hb'=>⟨hb',ChangeMaps.heap_setBlock_other hb _ (λe=>hS (by rw [<- e]; exact hb'))⟩;rcases K.find w hkey es.toList hks with ⟨g1,g2⟩ | ⟨j,e0,g1,g2,g3⟩
 ·refine ⟨.map (es.push ⟨DL key,c,clock⟩) (clock+1),_,by simp [Instr.mapUpdate,run_underlying ht,MapKept.run_getObj_map hb,K.check w false hkey,g1,MapKept.run_setObj_map _ hb,Result.andThen,ChangeMaps.setBlock],rfl,λ_ hj=>ChangeMaps.heap_setBlock_other hb _ hj,ChangeMaps.heap_setBlock_same hb _,?_⟩
  have hne:∀ (i:Nat) (x:MapEntry),es[i]? = some x->x.key ≠ DL key:=λi x hi=>g2 x (List.mem_of_getElem? (by rw [Array.getElem?_toList]; exact hi));have hsplit:∀ (i:Nat) (x:MapEntry),(es.push ⟨DL key,c,clock⟩)[i]? = some x->(i=es.size∧x=⟨DL key,c,clock⟩) ∨ es[i]? = some x:=λi x hi=>by
   rw [Array.getElem?_push] at hi;split at hi
   ·rename_i he
    cases hi;exact .inl ⟨he,rfl⟩
   ·exact .inr hi
  unfold Iq;rw [ht];refine ⟨_,_,rfl,λi j x y hi hj he=>?_,λi x hi=>?_,λy hy hh=>?_⟩
  ·rcases hsplit i x hi with ⟨rfl,rfl⟩ | hi'
   ·rcases hsplit j y hj with ⟨rfl,rfl⟩ | hj'
    ·rfl
    ·exact absurd he.symm (hne j y hj')
   ·rcases hsplit j y hj with ⟨rfl,rfl⟩ | hj'
    ·exact absurd he (hne i x hi')
    ·exact h2 i j x y hi' hj' he
  ·rcases hsplit i x hi with ⟨rfl,rfl⟩ | hi'
   ·exact ⟨key,rfl,⟨l,hkey⟩,MS _ _,by rw [Nc]; exact VR.mono (hw _) _ _ _ _ (λ_ _ h=>h) hv⟩
   ·obtain ⟨y,q1,q2,q3,q4⟩:=h3 i x hi'
    have hyk:y ≠ key:=λe=>hne i x hi' (by rw [q1,e]);exact ⟨y,q1,q2,by rw [GL hyk]; exact q3,by rw [KH hyk]; exact VR.mono (hw _) _ _ _ _ (λ_ _ h=>h) q4⟩
  ·by_cases hyk:y=key
   ·subst hyk
    exact ⟨es.size,⟨DL y,c,clock⟩,by simp,rfl⟩
   ·rw [GL hyk] at hh
    obtain ⟨i,x,q1,q2⟩:=h4 y hy hh;refine ⟨i,x,?_,q2⟩;rw [Array.getElem?_push];have hlt:=(Array.getElem?_eq_some_iff.1 q1).1;rw [if_neg (by omega)];exact q1
 ·have g2:es[j]? = some e0:=by rw [<- Array.getElem?_toList]; exact g2
  obtain ⟨y0,q1,_,q2,q3⟩:=h3 j e0 g2;have hy0:y0=key:=KR (q1.symm.trans g3);subst hy0;have hlt:=(Array.getElem?_eq_some_iff.1 g2).1;have hgi:es[j]=e0:=(Array.getElem?_eq_some_iff.1 g2).2;refine ⟨.map (es.modify j λx=>{ x with key:=DL y0,val:=c }) clock,_,?_,rfl,λ_ hj=>ChangeMaps.heap_setBlock_other hb _ hj,ChangeMaps.heap_setBlock_same hb _,?_⟩
  ·simp [Instr.mapUpdate,run_underlying ht,MapKept.run_getObj_map hb,K.check w false hkey,g1,g2,g3,K.stays w hkey,MapKept.run_setObj_map _ hb,Result.andThen,ChangeMaps.setBlock]
  have hget:∀ i,(es.modify j λx=>{ x with key:=DL y0,val:=c })[i]? = if j=i then some { e0 with key:=DL y0,val:=c } else es[i]?:=λi=>by
   rw [Array.getElem?_modify];split
   ·rename_i he
    subst he;rw [g2];rfl
   ·rfl
  have hkeys:∀ (i:Nat) (x:MapEntry),(es.modify j λx=>{ x with key:=DL y0,val:=c })[i]? = some x->∃ x0,es[i]? = some x0∧x0.key=x.key:=λi x hi=>by
   rw [hget] at hi;split at hi
   ·rename_i he
    subst he;cases hi;exact ⟨e0,g2,g3⟩
   ·exact ⟨x,hi,rfl⟩
  unfold Iq;rw [ht];refine ⟨_,_,rfl,λi j' x y hi hj he=>?_,λi x hi=>?_,λy hy hh=>?_⟩
  ·obtain ⟨x0,p1,p2⟩:=hkeys i x hi
   obtain ⟨x1,p3,p4⟩:=hkeys j' y hj;exact h2 i j' x0 x1 p1 p3 (by rw [p2,p4,he])
  ·by_cases he:j=i
   ·subst he
    rw [hget,if_pos rfl] at hi;cases hi;exact ⟨y0,rfl,⟨l,hkey⟩,MS _ _,by rw [Nc]; exact VR.mono (hw _) _ _ _ _ (λ_ _ h=>h) hv⟩
   ·rw [hget,if_neg he] at hi
    obtain ⟨y,p1,p2,p3,p4⟩:=h3 i x hi;have hyk:y ≠ y0:=λe=>he (h2 j i e0 x g2 hi (by rw [g3,p1,e]));exact ⟨y,p1,p2,by rw [GL hyk]; exact p3,by rw [KH hyk]; exact VR.mono (hw _) _ _ _ _ (λ_ _ h=>h) p4⟩
  ·by_cases hyk:y=y0
   ·subst hyk
    exact ⟨j,_,by rw [hget,if_pos rfl],rfl⟩
   ·rw [GL hyk] at hh
    obtain ⟨i,x,p1,p2⟩:=h4 y hy hh;have he:j ≠ i:=λe=>by
     subst e;rw [g2] at p1;cases p1;exact hyk (KR (p2.symm.trans g3))
    exact ⟨i,x,by rw [hget,if_neg he]; exact p1,p2⟩
include hτ in
theorem ZT {e:TypeId} {te:Ty} (hte:τ[e]? = some te) {zc:List V} (h:te.zero.cells=some zc) (S:Nat->Prop) (w:World):∃ z,(zeroValue e).run P w = .ok z w∧VR S w te.zero noK z:=by
 obtain ⟨i,_,hi,_,_,_,_,hz,_⟩:=hτ.info hte;cases hi0:i.zero with
 | none =>rw [hi0] at hz;rw [hz] at h;cases h
 | some z =>rw [hi0] at hz;refine ⟨z,by simp only [zeroValue,typeInfo,Sem.run_bind,run_program,Result.andThen_ok,hi,hi0,Sem.run_pure],?_⟩;rw [hz];exact C4 z
theorem Sw {α:Type} {k:Key} {f:V->T α} {v:α}:∀ {l:List (Key×V)},(YL k f l).sem=some v->∃ x,asK l k=some x∧(f x).sem=some v
 | [],h=>by cases h
 | a::l,h=>by
  have h:(T.br (keq k a.1) (f a.2) (YL k f l)).sem=some v:=h;simp only [T.sem,sel] at h;cases hb:keq k a.1 with
  | true =>rw [hb] at h;exact ⟨a.2,by simp [asK,hb],h⟩
  | false =>rw [hb] at h;obtain ⟨x,h1,h2⟩:=Sw h;exact ⟨x,by simp [asK,hb,h1],h2⟩
include hτ in
theorem SK (hg:Good κ S st.h w) {t:TypeId} {s:Bool} {k e:TypeId} (hd:P.underlying t=some (.map k e)) (hk:Abw P s k) {id:Nat} {x:V} {cm cx:Value} (hm:VR S w (.ref id) κ cm) (hx:VR S w x κ cx) {f:V->Bool->V} {v:V} (ok:Bool)
  (h:(Uo τ st t s e id x f .leaf).sem=some v):∃ z b,v=f z b∧∃ c,VR S w z noK c∧(Instr.lookup t cm cx ok).run P w = .ok (if ok then .tuple #[c,.bool b] else c) w:=by
 unfold Uo at h;split at h
 ·rename_i t' ks hs get te key hh hte hkv
  split at h
  ·rename_i zc hbt hzc
   have hbt:=Nat.eq_of_beq_eq_true hbt;subst hbt;obtain ⟨hf,h⟩:=Ab h;obtain ⟨b,ob,q1,q2,q3,q4⟩:=hg.blk id _ hh;obtain ⟨hm1,_⟩:=hm;rw [q1] at hm1;simp at hm1;subst hm1;obtain rfl:=VB hkv hx;obtain ⟨z,hz1,hz2⟩:=ZT hτ hte hzc S w;obtain ⟨c,r1,r2⟩:=AaS hτ.same hd hk q2 q3 (VC hτ.same hk hkv hf) hz1 hz2 ok;have h:(T.leaf (f (Ry (hs key) (get key) te.zero) (hs key))).sem=some v:=by
    split at h
    ·obtain ⟨x,p1,p2⟩:=Sw h
     obtain ⟨p3,p4⟩:=q4 _ _ p1;rw [p3,p4,Et];exact p2
    ·exact h
   exact ⟨_,_,Aa h,c,r1,r2⟩
  ·cases h
 ·cases h
include hτ in
theorem ML {e:TypeId} (h:UL τ e=true) (w:World):(zeroValue e).run P w = .ok (.int .i64 0) w:=by
 unfold UL at h;split at h
 ·rename_i te hte
  obtain ⟨i,_,hi,_,_,_,_,hz,_⟩:=hτ.info hte;split at h
  ·rename_i hz0
   rw [hz0] at hz;cases hi0:i.zero with
   | none=>rw [hi0] at hz; cases hz
   | some z =>rw [hi0] at hz;have hv:VR (λ_=>False) w (ofValue z) noK z:=C4 z;rw [<- show V.val (.int .i64 (.ofNat 0))=ofValue z from hz] at hv;have:z = .int .i64 0:=hv;subst this;simp only [zeroValue,typeInfo,Sem.run_bind,run_program,Result.andThen_ok,hi,hi0,Sem.run_pure]
  ·cases h
 ·cases h
include hτ in
theorem AaE (hg:Good κ S st.h w) {t:TypeId} {m x:V} {cm cx:Value} (hm:VR S w m κ cm) (hx:VR S w x κ cx)
  (hrun:(execOp a.eval o).run P w=((Instr.lookup t cm cx false).run P w).andThen λv w'=>.ok (.value v) w') {v:V}
  (h:(TV τ st t m x).sem=some v):HE P a o S w κ v:=by
 unfold TV at h;split at h
 ·rename_i ty hty
  obtain ⟨_,d,_,hd,hk,_⟩:=hτ.info hty;split at h
  ·rename_i e id key hkk
   rw [hkk] at hk;obtain ⟨k,rfl,h1,h2⟩:=FZ hk.symm;split at h
   ·rename_i t' n get hh hz
    split at h
    ·rename_i hbt
     have hbt:=Nat.eq_of_beq_eq_true hbt;subst hbt;obtain ⟨hf,h⟩:=Ab h;obtain ⟨b,ob,q1,q2,q3⟩:=hg.blk id _ hh;obtain ⟨hm1,_⟩:=hm;rw [q1] at hm1;simp at hm1;subst hm1;obtain ⟨D,own,hat⟩:=S8 hτ.same hd q2 q3;have hx:cx = .int .i64 key:=hx;subst hx;obtain ⟨c,hc,hat2,_⟩:=own.lookup_int (Maps.int_keyed h1) hd h2 (ML hτ hz w) (Maps.keyOf_int_mk h1 (EN hf));rw [hat key (EN hf)] at hat2;have e:get key=c:=by simpa using hat2
     rw [Aa h,e];exact ⟨_,by rw [hrun,hc]; rfl,rfl⟩
    ·cases h
   ·cases h
  ·rename_i e id i key hkk
   rw [hkk] at hk;obtain ⟨k,rfl,h1,h2⟩:=FZ hk.symm;split at h
   ·rename_i j hh hz
    split at h
    ·rename_i q hq
     split at h
     ·rename_i hbt
      have hbt:=Nat.eq_of_beq_eq_true hbt;subst hbt;obtain ⟨hl,h⟩:=Ab h;obtain ⟨hf,h⟩:=Ab h;obtain ⟨_,_,_,b,_,_,_,rfl,_,D,own,_,hat⟩:=UC hτ.same hg hm hh hq hl hd;have hx:cx = .int .i64 key:=hx;subst hx;obtain ⟨c,hc,hat2,_⟩:=own.lookup_int (Maps.int_keyed h1) hd h2 (ML hτ hz w) (Maps.keyOf_int_mk h1 (EN hf));rw [(hat key (EN hf)).2] at hat2;have e:q.get i key=c:=by simpa using hat2
      rw [Aa h,e];exact ⟨_,by rw [hrun,hc]; rfl,rfl⟩
     ·cases h
    ·cases h
   ·cases h
  ·rename_i s e id hkk
   rw [hkk] at hk;obtain ⟨k,rfl,h1⟩:=LX hk.symm;obtain ⟨z,b,rfl,c,q1,q2⟩:=SK hτ hg hd h1 hm hx false h;exact ⟨c,by rw [hrun,q2]; rfl,VR.mono (λb hb=>⟨hb,rfl⟩) _ _ _ _ (λ_ _ h=>by cases h) q1⟩
  ·cases h
 ·cases h
include hτ in
theorem XB (hg:Good κ S st.h w) {t:TypeId} {m x:V} {cm cx:Value} (hm:VR S w m κ cm) (hx:VR S w x κ cx)
  (hrun:(execOp a.eval o).run P w=((Instr.lookup t cm cx true).run P w).andThen λv w'=>.ok (.value v) w') {v:V}
  (h:(TW τ st t m x).sem=some v):HE P a o S w κ v:=by
 unfold TW at h;split at h
 ·rename_i ty hty
  obtain ⟨_,d,_,hd,hk,_⟩:=hτ.info hty;split at h
  ·rename_i e id i key hkk
   rw [hkk] at hk;obtain ⟨k,rfl,h1,h2⟩:=FZ hk.symm;split at h
   ·rename_i j hh hz
    split at h
    ·rename_i q hq
     split at h
     ·rename_i hbt
      have hbt:=Nat.eq_of_beq_eq_true hbt;subst hbt;obtain ⟨hl,h⟩:=Ab h;obtain ⟨hf,h⟩:=Ab h;obtain ⟨_,_,_,b,_,_,_,rfl,_,D,own,_,hat⟩:=UC hτ.same hg hm hh hq hl hd;have hx:cx = .int .i64 key:=hx;subst hx;obtain ⟨v0,ps,hc,hv⟩:=own.look_ok (Maps.int_keyed h1) hd (ML hτ hz w) (plainElem_int h2 (by decide)) (Maps.keyOf_int_mk h1 (EN hf));obtain ⟨c,rfl,hc2,_⟩:=plainElem_int_inv h2 hv;obtain ⟨q1,q2⟩:=hat key (EN hf);rw [q2] at hc2;have e:q.get i key=c:=by simpa using congrArg Prod.fst hc2
      rw [q1] at hc;rw [Aa h,e];exact ⟨_,by rw [hrun,hc]; rfl,⟨[.int .i64 c,.bool (q.hs i key)],rfl,_,_,rfl,rfl,_,_,rfl,rfl,rfl⟩⟩
     ·cases h
    ·cases h
   ·cases h
  ·rename_i s e id hkk
   rw [hkk] at hk;obtain ⟨k,rfl,h1⟩:=LX hk.symm;obtain ⟨z,b,rfl,c,q1,q2⟩:=SK hτ hg hd h1 hm hx true h;exact ⟨_,by rw [hrun,q2]; rfl,⟨[c,.bool b],rfl,_,_,rfl,VR.mono (λb hb=>⟨hb,rfl⟩) _ _ _ _ (λ_ _ h=>by cases h) q1,_,_,rfl,rfl,rfl⟩⟩
  ·cases h
 ·cases h
theorem AaX {t k e:TypeId} (hd:P.underlying t=some (.map k e)) (b:Option Nat):(binOp .eql t (.map b) (.map none)).run P w = .ok (.bool b.isNone) w:=by
 show ((Op.equalIn 10000 t (.map b) (.map none)) >>= λr=>pure (.bool r):Sem Value).run P w=_;have:(Op.equalIn 10000 t (.map b) (.map none)).run P w = .ok b.isNone w:=by
  rw [show (10000:Nat)=9999+1 from rfl,Op.equalIn];rw [Sem.run_bind,run_underlying hd w];cases b <;> rfl
 rw [Sem.run_bind,this];rfl
theorem Aa2 {t k e:TypeId} (hd:P.underlying t=some (.map k e)) (b:Option Nat):(binOp .neq t (.map b) (.map none)).run P w = .ok (.bool (!b.isNone)) w:=by
 show ((Op.equalIn 10000 t (.map b) (.map none)) >>= λr=>pure (.bool (!r)):Sem Value).run P w=_;have:(Op.equalIn 10000 t (.map b) (.map none)).run P w = .ok b.isNone w:=by
  rw [show (10000:Nat)=9999+1 from rfl,Op.equalIn];rw [Sem.run_bind,run_underlying hd w];cases b <;> rfl
 rw [Sem.run_bind,this];rfl
theorem Ael {t e:TypeId} (hd:P.underlying t=some (.slice e)) (q:Addr) (n cap:Nat):(binOp .eql t (.slice (some q) n cap) (.slice none 0 0)).run P w = .ok (.bool false) w:=by
 show ((Op.equalIn 10000 t (.slice (some q) n cap) (.slice none 0 0)) >>= λr=>pure (.bool r):Sem Value).run P w=_;have:(Op.equalIn 10000 t (.slice (some q) n cap) (.slice none 0 0)).run P w = .ok false w:=by
  rw [show (10000:Nat)=9999+1 from rfl,Op.equalIn];rw [Sem.run_bind,run_underlying hd w];rfl
 rw [Sem.run_bind,this];rfl
theorem Adi {t e:TypeId} (hd:P.underlying t=some (.slice e)) (q:Addr) (n cap:Nat):(binOp .neq t (.slice (some q) n cap) (.slice none 0 0)).run P w = .ok (.bool true) w:=by
 show ((Op.equalIn 10000 t (.slice (some q) n cap) (.slice none 0 0)) >>= λr=>pure (.bool (!r)):Sem Value).run P w=_;have:(Op.equalIn 10000 t (.slice (some q) n cap) (.slice none 0 0)).run P w = .ok false w:=by
  rw [show (10000:Nat)=9999+1 from rfl,Op.equalIn];rw [Sem.run_bind,run_underlying hd w];rfl
 rw [Sem.run_bind,this];rfl
include hτ in
theorem ZL (hg:Good κ S st.h w) {op:BinOp} {t:Nat} {lit:Bool} {x y v:V} {cx cy:Value} (h:(AkT τ st op t lit x y).sem=some v) (hx:VR S w x κ cx) (hy:VR S w y κ cy) (xo yo:Operand) :
  ∃ c,(do eqGuard op t xo yo cx cy; binOp op t cx cy:Sem Value).run P w = .ok c w∧VR S w v κ c:=by
 unfold AkT at h;split at h
 ·rename_i id i
  have hy:cy = .map none:=hy;subst hy;split at h
  ·rename_i j hh
   split at h
   ·rename_i q hq hmt
    have hd:∃ k e,P.underlying t=some (.map k e):=by
     unfold AhZ at hmt;split at hmt
     ·rename_i ty hty
      obtain ⟨_,d,_,hd,hk,_⟩:=hτ.info hty;split at hmt
      ·rename_i e hkk
       rw [hkk] at hk;obtain ⟨k,rfl,_⟩:=FZ hk.symm;exact ⟨k,e,hd⟩
      ·cases hmt
     ·cases hmt
    obtain ⟨k,e,hd⟩:=hd;obtain ⟨c,ms,xs,hk,hj⟩:=Cd hg hh;obtain ⟨c',ms',hk',hm',_⟩:=hx;rw [hk] at hk';obtain ⟨rfl,rfl⟩:=AC hk';rw [(hj.half hq).1] at hm';have hM:=(hj.map hq hm').2;have hb:∃ b,cx = .map b∧b.isNone=!(q.live i):=by
     split at hM
     ·rename_i hl
      obtain ⟨b,_,rfl,_⟩:=hM;exact ⟨some b,rfl,by rw [hl]; rfl⟩
     ·rename_i hl
      exact ⟨none,hM,by rw [hl]; rfl⟩
    obtain ⟨b,rfl,hbn⟩:=hb;split at h
    ·rw [Aa h]
     refine ⟨_,by rw [Sem.run_bind]; exact AaX hd b,?_⟩;rw [hbn];cases q.live i <;> rfl
    ·rw [Aa h]
     refine ⟨_,by rw [Sem.run_bind]; exact Aa2 hd b,?_⟩;rw [hbn];cases q.live i <;> rfl
    ·cases h
   ·cases h
  ·cases h
 ·rename_i s n g
  have hy:cy = .slice none 0 0:=hy;subst hy;split at h
  ·rename_i hst
   have hd:∃ e,P.underlying t=some (.slice e):=by
    unfold Amf at hst;split at hst
    ·rename_i ty hty
     obtain ⟨_,d,_,hd,hk,_⟩:=hτ.info hty;split at hst
     ·rename_i e hkk
      rw [hkk] at hk;have:=Ee hk.symm;subst this;exact ⟨e,hd⟩
     ·cases hst
    ·cases hst
   obtain ⟨e,hd⟩:=hd;obtain ⟨a,cap,rfl,hc,ha⟩:=hx;have key:(RA 0 n)=true->∃ q,a=some q:=λhn=>by
    have hn:0<n:=Nat.le_of_ble_eq_true hn;rcases ha with h0 | ⟨b,o,h0,_⟩
    ·omega
    ·exact ⟨_,h0⟩
   split at h
   ·obtain ⟨hn,h⟩:=Ab h
    obtain ⟨q,rfl⟩:=key hn;rw [Aa h];exact ⟨_,by rw [Sem.run_bind]; exact Ael hd q n cap,rfl⟩
   ·obtain ⟨hn,h⟩:=Ab h
    obtain ⟨q,rfl⟩:=key hn;rw [Aa h];exact ⟨_,by rw [Sem.run_bind]; exact Adi hd q n cap,rfl⟩
   ·cases h
  ·cases h
 ·exact Ahm hτ h hx hy xo yo
include hτ in
theorem X4 (hg:Good κ S st.h w) (ht:VRs S w st.t κ a.tmps.toList) {t:TypeId}
  (hrun:(execOp a.eval o).run P w=((Instr.makeMap t none).run P w).andThen λv w'=>.ok (.value v) w')
  (h:(PX τ st t).sem=some r) (hp:F4 a o κ S st w K r):o.wp P a w K Q:=by
 unfold PX at h;split at h
 ·rename_i ty hty
  obtain ⟨_,d,_,hd,hk,_⟩:=hτ.info hty;split at h
  ·rename_i e hkk
   rw [hkk] at hk;obtain ⟨k,rfl,h1,h2⟩:=FZ hk.symm;have own:=World.ownsMap_made (H:=Unit) w P k (plainElem P e);obtain ⟨ob,q1,q2⟩:=S3 (get:=λ_=>0) hτ.same hd own λx _=>rfl;have hrun':(execOp a.eval o).run P w = .ok (.value (.map (some w.heap.size))) (w.alloc (.map #[] 0)):=by
    rw [hrun];rfl
   refine Ni (v:=V.ref) hg ht hrun' (B7 w _) (by simp) rfl rfl rfl ?_ (.inr rfl) ⟨by simp [AZ],.inr (.inl ⟨_,rfl⟩)⟩ h hp;exact ⟨w.heap.size,ob,rfl,q1,q2⟩
  ·rename_i s e hkk
   rw [hkk] at hk;obtain ⟨k,rfl,h1⟩:=LX hk.symm;have hrun':(execOp a.eval o).run P w = .ok (.value (.map (some w.heap.size))) (w.alloc (.map #[] 0)):=by
    rw [hrun];rfl
   split at h
   rotate_left
   ·cases h
   refine Ni (v:=V.ref) hg ht hrun' (B7 w _) (by simp) rfl rfl rfl ?_ (.inr rfl) ⟨by simp [AZ],.inr (.inl ⟨_,rfl⟩)⟩ h hp;refine ⟨w.heap.size,.map #[] 0,rfl,heap_alloc_new w _,?_,λ_ _ hx=>by cases hx⟩;have hd:=hd;rw [hτ.same] at hd;unfold Iq;rw [hd];exact ⟨#[],0,rfl,λi j x y hi=>by simp at hi,λi x hi=>by simp at hi,λy _ hh=>by cases hh⟩
  ·cases h
 ·cases h
include hτ in
theorem S9 (hg:Good κ S st.h w) (ht:VRs S w st.t κ a.tmps.toList) {t:TypeId} {m x y:V} {cm cx cy:Value} (hm:VR S w m κ cm) (hx:VR S w x κ cx) (hy:VR S w y κ cy)
  (hrun:(execOp a.eval o).run P w=((Instr.mapUpdate t cm cx cy).run P w).andThen λ_ w'=>.ok .skip w')
  (h:(OD τ st t m x y).sem=some r) (hp:F4 a o κ S st w K r):o.wp P a w K Q:=by
 unfold OD at h;split at h
 ·rename_i ty hty
  obtain ⟨_,d,_,hd,hk,_⟩:=hτ.info hty;split at h
  ·rename_i e id key val hkk
   rw [hkk] at hk;obtain ⟨k,rfl,h1,h2⟩:=FZ hk.symm;split at h
   ·rename_i t' n get hh
    split at h
    ·rename_i hbt
     have hbt:=Nat.eq_of_beq_eq_true hbt;subst hbt;obtain ⟨hn,h⟩:=Ab h;obtain ⟨hf,h⟩:=Ab h;obtain ⟨hf2,h⟩:=Ab h;have hn:n<4611686018427387904:=of_decide_eq_true hn;have hr:=Aa h;subst hr;obtain ⟨b,ob,q1,q2,q3⟩:=hg.blk id _ hh;obtain ⟨hm1,_⟩:=hm;rw [q1] at hm1;simp at hm1;subst hm1;obtain ⟨D,own,hat⟩:=S8 hτ.same hd q2 q3;have hx:cx = .int .i64 key:=hx;subst hx;have hy:cy = .int .i64 val:=hy;subst hy;obtain ⟨w',hc,own',hgr⟩:=own.store (Maps.int_keyed h1) hd (by unfold maxLen; omega) (Maps.keyOf_int_mk h1 (EN hf)) (plainElem_int h2 (EN hf2));have hmap:Maps.IsMap D:=by
      obtain ⟨_,_,_,_,_,e⟩:=own;exact ⟨_,e⟩
     obtain ⟨ob',p1,p2⟩:=S3 (get:=I3 get key val) hτ.same hd own' λx hx=>by
      unfold I3 sel ieq;by_cases hxk:x=key
      ·subst hxk
       rw [Maps.atKey_put_same hmap (show WideAt.IsKeyLit (.int .i64 x) from trivial)];simp
      ·rw [Maps.atKey_put_other (by intro h; simp at h; exact hxk h),hat x hx]
       have:(x == key)=false:=by simpa using hxk
       rw [this];rfl
     obtain ⟨_,_,_,_,hsb,hw'⟩:=hgr;have hidb:Ak (κ id)=some b:=by rw [q1]; rfl
     have hgown:A3 κ st.h id b:=(Aq hh).2 hidb;have hwk:∀ k,k ≠ b->w'.heap[k]? = w.heap[k]?:=λk hk=>by rw [hw']; exact ChangeMaps.heap_setBlock_other hsb _ hk
     have hsz:w'.heap.size=w.heap.size:=by rw [hw']; simp [ChangeMaps.setBlock]
     have hS:∀ b',S b'->S b'∧w'.heap[b']? = w.heap[b']?:=λb' hb=>⟨hb,hwk b' λeb=>(hg.out b' hb).2 id (by rw [eb]; exact hgown)⟩;have hup:=Good.upd (w':=w') (b':=.imap t (Bh n 1) (I3 get key val)) hg hh trivial trivial hidb hwk hsz ⟨b,ob',q1,p1,p2⟩;unfold Oper.wp;rw [hrun,hc];exact hp κ S undef w' hup.1 (VR.mono_go hS _ _ _ _ (λ_ _ h=>h) ht) rfl (Ext.upd hg hh trivial trivial hidb hwk hsz (by rw [hw']; rfl) (by rw [hw']; rfl) (by rw [hw']; rfl) hup.2 (λ_ _ _ _=>by simp) (λ_ _ _ _ h=>by cases h))
    ·cases h
   ·cases h
  ·rename_i e id i key val hkk
   rw [hkk] at hk;obtain ⟨k,rfl,h1,h2⟩:=FZ hk.symm;split at h
   ·rename_i j hh
    split at h
    ·rename_i q hq
     split at h
     ·rename_i hbt
      have hbt:=Nat.eq_of_beq_eq_true hbt;subst hbt;obtain ⟨hin,h⟩:=Ab h;obtain ⟨hl,h⟩:=Ab h;obtain ⟨hn,h⟩:=Ab h;obtain ⟨hf,h⟩:=Ab h;obtain ⟨hf2,h⟩:=Ab h;have hn:q.len i<4611686018427387904:=of_decide_eq_true hn;have hr:=Aa h;subst hr;obtain ⟨c,ms,xs,b,hk0,hj,hmi,rfl,h0,D,own,hsz0,hat⟩:=UC hτ.same hg hm hh hq hl hd;have hx:cx = .int .i64 key:=hx;subst hx;have hy:cy = .int .i64 val:=hy;subst hy;obtain ⟨w',hc,own',hgr⟩:=own.store (Maps.int_keyed h1) hd (by unfold maxLen; omega) (Maps.keyOf_int_mk h1 (EN hf)) (plainElem_int h2 (EN hf2));have hmap:Maps.IsMap D:=by
       obtain ⟨_,_,_,_,_,e⟩:=own;exact ⟨_,e⟩
      have hsz':Maps.size (D.put (.int .i64 key) (.lit (.int .i64 val)))=sel (q.hs i key) (q.len i) (Bh (q.len i) 1):=by
       rw [Maps.size_put (own.tidy (Maps.int_keyed h1)),(hat key (EN hf)).1,hsz0];cases q.hs i key <;> rfl
      obtain ⟨ob',p1,p2⟩:=Aaw (hs:=λx=>sel (ieq x key) true (q.hs i x)) (get:=I3 (q.get i) key val) hτ.same hd own' hsz' (λx hx=>by
       unfold I3;cases he:ieq x key
       ·rw [he] at hx
        exact h0 x hx
       ·rw [he] at hx
        cases hx) λx hx=>by
       unfold I3 sel ieq;by_cases hxk:x=key
       ·subst hxk
        rw [Maps.atKey_put_same hmap (show WideAt.IsKeyLit (.int .i64 x) from trivial),Maps.has_put_same hmap (show WideAt.IsKeyLit (.int .i64 x) from trivial)];simp
       ·have hne:Lit.int .i64 x ≠ .int .i64 key:=by intro h; simp at h; exact hxk h
        rw [Maps.atKey_put_other hne,Maps.has_put_other hne,(hat x hx).1,(hat x hx).2];have:(x == key)=false:=by simpa using hxk
        rw [this];exact ⟨rfl,rfl⟩
      obtain ⟨_,_,_,_,hsb,hw'⟩:=hgr;have htop:inBlk (κ id) b (.jag j):=by rw [hk0]; exact BU hmi rfl
      have hwk:∀ k,k ≠ b->w'.heap[k]? = w.heap[k]?:=λk hk=>by rw [hw']; exact ChangeMaps.heap_setBlock_other hsb _ hk
      have hsz:w'.heap.size=w.heap.size:=by rw [hw']; simp [ChangeMaps.setBlock]
      have hS:∀ b',S b'->S b'∧w'.heap[b']? = w.heap[b']?:=λb' hb=>⟨hb,hwk b' λeb=>(hg.out b' hb).2 id (by rw [eb]; exact (Aq hh).2 htop)⟩;obtain ⟨g1,g2,g3,g4,g5,g6,g7,g8,g9⟩:=hj;have hup:=Good.upd' (w':=w') (b':=.jag { j with mp:=some { q with len:=Dq q.len i (sel (q.hs i key) (q.len i) (Bh (q.len i) 1)),hs:=Gy q.hs i λx=>sel (ieq x key) true (q.hs i x),get:=Gy q.get i (I3 (q.get i) key val) } }) hg hh (λk hk=>hk) (λk hk _=>hwk k λe=>hk (by rw [e]; exact htop)) (Nat.le_of_eq hsz.symm)
       ⟨_,ms,xs,hk0,g1,g2,⟨g3.1,λu hu=>by cases hu; exact g3.2 q hq⟩,by unfold mpN at g4 ⊢; rw [hq] at g4; exact g4,BQ g5 λg hg2=>hwk g λe=>(g9 _ _ b hmi rfl).1 (by rw [hg2,e]),g6,λk hkn=>?_,λk m hm=>?_,g9⟩
      ·unfold Oper.wp
       rw [hrun,hc];exact hp κ S undef w' hup.1 (VR.mono_go hS _ _ _ _ (λ_ _ h=>h) ht) rfl (Ext.upd' hg hh rfl (λk hk _=>hwk k λe=>hk (by rw [e]; exact htop)) (Nat.le_of_eq hsz.symm) (by rw [hw']; rfl) (by rw [hw']; rfl) (by rw [hw']; rfl) hup.2 (λ_ _ _ _ h=>by cases h)
        (λhf=>absurd hf (Bj _)))
      ·obtain ⟨ck,z1,z2,z3,z4⟩:=g7 k hkn
       exact ⟨ck,VR.mono hS _ _ _ _ (λ_ _ h=>h) z1,z2,z3,λp hp hpo hpm=>z4 p hp hpo λu hu=>by
        rw [hq] at hu;cases hu;have:=hpm _ rfl;exact this⟩
      ·by_cases eki:k=j.n+i
       ·subst eki
        rw [hmi] at hm;cases hm;refine .inr ⟨_,i,rfl,rfl,?_⟩;rcases g8 _ _ hmi with ⟨hi2,_⟩ | ⟨u,k2,h81,h82,h8⟩
        ·omega
        ·rw [hq] at h81
         cases h81;obtain rfl:i=k2:=by omega
         refine ⟨h8.1,?_⟩;show match q.live i with | true=>_ | false=>_
         rw [hl];refine ⟨b,ob',rfl,p1,?_⟩;show RP _ (Dq q.len i _ i) (Gy q.hs i _ i) (Gy q.get i _ i) ob';rw [G6,JO,JO];exact p2
       ·have hb:∀ g,Ak (some m)=some g->w'.heap[g]? = w.heap[g]?:=λg hg2=>hwk g λe=>(g9 _ _ b hmi rfl).2 k m eki hm (by rw [hg2,e])
        rcases g8 k m hm with ⟨hkn,h8⟩ | ⟨u,k2,h81,rfl,h8⟩
        ·exact .inl ⟨hkn,h8.re hS hb rfl rfl rfl rfl rfl rfl rfl rfl⟩
        ·rw [hq] at h81
         cases h81;have hki:k2 ≠ i:=λe=>eki (by rw [e]);exact .inr ⟨_,k2,rfl,rfl,h8.re hb rfl rfl rfl rfl (O5 hki) (O6 hki) (O6 hki) rfl⟩
     ·cases h
    ·cases h
   ·cases h
  ·rename_i x y _ _ _ _ s e id hkk
   rw [hkk] at hk;obtain ⟨k,rfl,h1⟩:=LX hk.symm;split at h
   ·rename_i t' ks hs get te key hh hte hkv
    split at h
    ·rename_i hbt hfree
     have hbt:=Nat.eq_of_beq_eq_true hbt;subst hbt;obtain ⟨hf,h⟩:=Ab h;have hr:=Aa h;subst hr;obtain ⟨b,ob,q1,q2,q3,q4⟩:=hg.blk id _ hh;obtain ⟨hm1,_⟩:=hm;rw [q1] at hm1;simp at hm1;subst hm1;obtain rfl:=VB hkv hx;have hidb:Ak (κ id)=some b:=by rw [q1]; rfl
     have hgown:A3 κ st.h id b:=(Aq hh).2 hidb;obtain ⟨ob',w',hc,hw',hwk,p1,p2⟩:=Aea hτ.same hd h1 q2 q3 (VC hτ.same h1 hkv hf) (FS _ _ hfree hy) (λhb=>(hg.out b hb).2 id hgown);have hsz:w'.heap.size=w.heap.size:=by rw [hw']; simp [ChangeMaps.setBlock]
     have hS:∀ b',S b'->S b'∧w'.heap[b']? = w.heap[b']?:=λb' hb=>⟨hb,hwk b' λeb=>(hg.out b' hb).2 id (by rw [eb]; exact hgown)⟩;have hmap:∀ k' x,asK (match OJ te.k with | true=>(key,y)::ks | false=>[]) k'=some x->P0 hs key k'=true∧R1 get key y k'=x:=λk' x hx=>by
      split at hx
      ·by_cases hkk:k'=key
       ·subst hkk
        rw [MS,Nc];refine ⟨rfl,?_⟩;simp only [asK,Kg.2 rfl,Option.some.injEq] at hx;exact hx
       ·rw [GL hkk,KH hkk]
        refine q4 k' x ?_;have:keq k' key=false:=by
         cases hb:keq k' key with
         | true=>exact absurd (Kg.1 hb) hkk
         | false=>rfl
        simpa only [asK,this] using hx
      ·cases hx
     have hup:=Good.upd (w':=w') (b':=.gmap t (match OJ te.k with | true=>(key,y)::ks | false=>[]) (P0 hs key) (R1 get key y)) hg hh trivial trivial hidb hwk hsz ⟨b,ob',q1,p1,p2,hmap⟩
     unfold Oper.wp;rw [hrun,hc];exact hp κ S undef w' hup.1 (VR.mono_go hS _ _ _ _ (λ_ _ h=>h) ht) rfl (Ext.upd hg hh trivial trivial hidb hwk hsz (by rw [hw']; rfl) (by rw [hw']; rfl) (by rw [hw']; rfl) hup.2 (λ_ _ _ _=>by simp) (λ_ _ _ _ h=>by cases h))
    ·cases h
   ·cases h
  ·cases h
 ·cases h
end
end Go.Sy
