/-
  The evaluator's makes, literals of slices and appends are the model's. No conditions.
-/
import Derived.Test.YtkbgidbledjejaaGreatSyH
namespace Go.Sy
section
variable {P:Program} {τ:List Ty} (hτ:TabOK P τ) {Γ:Cx0} {S:Nat->Prop} {w:World} {κ:Ai} {st:St} {a:Act} {o:Oper}
 {K:Act->World->Prop} {Q:Exit->Act->World->Prop} {r:V×St}
theorem CS.append {s n m:Nat} {g g' g2:Nat->V} {xs ys:List Value} (h:CS S w s n g xs) (h2:CS S w s m g' ys) (hl:xs.length=n * s)
  (e1:∀ i,i<n->g2 i=g i) (e2:∀ i,i<m->g2 (n+i)=g' i):CS S w s (n+m) g2 (xs++ys):=by
 intro i hi;by_cases hin:i<n
 ·obtain ⟨c,q1,q2,q3,q4⟩:=h i hin
  refine ⟨c,by rw [e1 i hin]; exact q1,q2,q3,λj hj=>?_⟩;have:=Dw hin hj;rw [List.getElem?_append_left (by omega)];exact q4 j hj
 ·obtain ⟨c,q1,q2,q3,q4⟩:=h2 (i-n) (by omega)
  refine ⟨c,?_,q2,q3,λj hj=>?_⟩
  ·have:=e2 (i-n) (by omega)
   rw [show n+(i-n)=i by omega] at this;rw [this]; exact q1
  ·have e:i * s+j=n * s+((i-n) * s+j):=by
    have:i=n+(i-n):=by omega
    calc i * s+j=(n+(i-n)) * s+j:=by rw [<- this]
     _=_:=by rw [Nat.add_mul,Nat.add_assoc]
   rw [e,List.getElem?_append_right (by omega),hl,Nat.add_sub_cancel_left];exact q4 j hj
theorem Tc {i k:Nat} (h:i ≠ k):Nat.beq i k=false:=by
 cases hb:Nat.beq i k
 ·rfl
 ·exact absurd (Nat.eq_of_beq_eq_true hb) h
theorem Qy (n m:Nat) (gx g:Nat->V) (i:Nat) (h:i<n):BY n m gx g i=gx i:=by
 unfold BY;split
 ·simp [BS,Tc (show i ≠ n by omega)]
 ·have:Nat.blt i n=true:=by simpa using h
  simp [NF,this]
theorem Qz (n m:Nat) (gx g:Nat->V) (i:Nat) (h:i<m):BY n m gx g (n+i)=g i:=by
 unfold BY;split
 ·have:i=0:=by omega
  subst this;simp [BS]
 ·have:Nat.blt (n+i) n=false:=by
   cases hb:Nat.blt (n+i) n
   ·rfl
   ·simp at hb; omega
  simp [NF,this]
def Rr (S:Nat->Prop) (w:World) (s m:Nat) (g:Nat->V) (cy:Value):Prop :=
 ∃ ay c news,cy = .slice ay m c∧news.length=m * s∧(∀ u ∈ news,u.oneCell'=true)∧CS S w s m g news ∧
  ((ay=none∧m=0) ∨ ∃ ad,ay=some ad∧∀ j u,news[j]? = some u->w.cell? (ad.add j)=some u)
theorem CS.one {s n:Nat} {g:Nat->V} {xs:List Value} (h:CS S w s n g xs) (hl:xs.length=n * s) (_hs:0<s):∀ u ∈ xs,u.oneCell'=true:=by
 intro u hu;obtain ⟨p,hp,rfl⟩:=List.mem_iff_getElem.1 hu;have hi:p / s<n:=by
  rw [hl] at hp;exact Nat.div_lt_of_lt_mul (by rwa [Nat.mul_comm])
 obtain ⟨c,q1,q2,q3,q4⟩:=h (p / s) hi;have hm:p % s<s:=Nat.mod_lt _ _hs;have:=q4 (p % s) hm;rw [show p / s * s+p % s=p by rw [Nat.mul_comm]; exact Nat.div_add_mod p s] at this;rw [List.getElem?_eq_getElem hp] at this;exact q3 _ (Array.mem_toList_iff.2 (Array.mem_of_getElem? this.symm))
theorem WY (hg:Good κ S st.h w) {id e s m:Nat} {g:Nat->V} {cy:Value} (hh:st.h[id]? = some (.row e s m g)) (hy:VR S w (.ref id) κ cy):Rr S w s m g cy:=by
 obtain ⟨hs0,c0,xs,hk,ho,he⟩:=E2 hg hh;obtain ⟨hk',_⟩:=hy;rw [hk] at hk';simp at hk';subst hk';have hl:=ho.1;rcases ho.2 with ⟨rfl,h0⟩ | ⟨g',cap,cur,rfl,_,hgw,hnc,_,hsz,htake⟩
 ·exact ⟨none,0,xs,by rw [h0],hl,he.one hl hs0,he,.inl ⟨rfl,h0⟩⟩
 ·refine ⟨_,cap,xs,rfl,hl,he.one hl hs0,he,.inr ⟨_,rfl,λj u hj=>?_⟩⟩
  rw [Dl,Nat.zero_add,cell_of_row w g' j cur e (0,0) hgw];rw [<- htake,List.getElem?_take] at hj;split at hj
  ·simpa using hj
  ·cases hj
theorem Aah {s m:Nat} {g:Nat->V} {cy:Value} (hs0:0<s) (hy:VR S w (.sl s m g) κ cy):Rr S w s m g cy:=by
 obtain ⟨ay,cap,rfl,_,h⟩:=hy;rcases h with h0 | ⟨b,o,rfl,h⟩
 ·subst h0
  refine ⟨ay,cap,[],rfl,by simp,by simp,λi hi=>absurd hi (Nat.not_lt_zero _),?_⟩;cases ay with
  | none=>exact .inl ⟨rfl,rfl⟩
  | some ad=>exact .inr ⟨ad,rfl,λj u hj=>by simp at hj⟩
 ·-- the cells,read off memory
  have hcell:∀ i,i<m->∃ ci,VR S w (g i) noK ci∧ci.cells.size=s∧(∀ u ∈ ci.cells.toList,u.oneCell'=true)∧∀ j,j<s->w.cell? ⟨b,o+(i * s+j),none⟩=ci.cells[j]?:=by
   intro i hi;obtain ⟨ci,q1,q2,q3,q4⟩:=h i hi;refine ⟨ci,q1,q2,q3,λj hj=>?_⟩;have hj':j<ci.cells.size:=by omega
   have hx:ci.cells.toList[j]? = some ci.cells[j]:=by simp [hj']
   have:=(q4 j _ hx).2;rw [<- Nat.add_assoc,this];simp [hj']
  have hnews:∀ p,p<m * s->∃ u,w.cell? ⟨b,o+p,none⟩=some u:=by
   intro p hp;have hi:p / s<m:=Nat.div_lt_of_lt_mul (by rwa [Nat.mul_comm]);obtain ⟨ci,q1,q2,q3,q4⟩:=hcell (p / s) hi;have hm:p % s<s:=Nat.mod_lt _ hs0;have:=q4 (p % s) hm;rw [show p / s * s+p % s=p by rw [Nat.mul_comm]; exact Nat.div_add_mod p s] at this;exact ⟨ci.cells[p % s]'(by omega),by rw [this]; simp [show p % s<ci.cells.size by omega]⟩
  have hget:∀ p,p<m * s->((List.range (m * s)).map λp=>(w.cell? ⟨b,o+p,none⟩).getD undef)[p]? = w.cell? ⟨b,o+p,none⟩:=by
   intro p hp;obtain ⟨u,hu⟩:=hnews p hp;simp [hp,hu]
  have hel:CS S w s m g ((List.range (m * s)).map λp=>(w.cell? ⟨b,o+p,none⟩).getD undef):=by
   intro i hi;obtain ⟨ci,q1,q2,q3,q4⟩:=hcell i hi;exact ⟨ci,q1,q2,q3,λj hj=>by rw [hget _ (Dw hi hj)]; exact q4 j hj⟩
  refine ⟨_,cap,_,rfl,by simp,hel.one (by simp) hs0,hel,.inr ⟨_,rfl,λj u hj=>?_⟩⟩;have hj':j<m * s:=by
   have:=(List.getElem?_eq_some_iff.1 hj).1;simpa using this
  rw [Dl,<- hget j hj'];exact hj
theorem Ow {t ty e:TypeId} {i:TypeInfo} (ht:P.underlying t=some (.slice e)) (hi:P.info? e=some i) (base:Option Addr) (n cap c:Nat) (h:n <= cap) :
  (Builtin.append_ #[t,t] ty #[.slice base n cap,.slice none 0 c]).run P w = .ok (.slice base n cap) w:=by
 cases base <;> simp [Builtin.append_,run_underlying ht,sizeOf,typeInfo,hi,Builtin.lenOf,h,Builtin.firstCells,storeCells]
theorem Ge.holds2 {S:Nat->Prop} {w:World} {κ:Ai} {mk:Nat->(Nat->V)->Blk} {e s n:Nat} {g:Nat->V} {v:Option Value} (hb:∀ n g',Ge (mk n g') e s n g')
  (h:0<s∧∃ c xs,v=some c∧w.ownsRow 0 e s c n xs∧CS S w s n g xs):A7 S w κ v (mk n g):=by
 rcases hb n g with hb | ⟨lk,hb⟩ <;> (rw [hb]; exact h)
include hτ in
theorem Qx (hg:Good κ S st.h w) (ht:VRs S w st.t κ a.tmps.toList) {t e:TypeId} {ty:Ty} {cx cy:Value} {id n m:Nat} {gx g:Nat->V}
  (htd:P.underlying t=some (.slice e)) (hty:τ[e]? = some ty) {zc:List V} (hzc:ty.zero.cells=some zc) (hzl:zc.length=ty.size) (hpos:0<ty.size) (hbpos:0<ty.bytes)
  (hx:VR S w (.ref id) κ cx) (hsrc:Rr S w ty.size m g cy)
  (hrun:(execOp a.eval o).run P w=((Builtin.append_ #[t,t] o.type #[cx,cy]).run P w).andThen λv w'=>.ok (.value v) w')
  {mk:Nat->(Nat->V)->Blk} (hmk:mk=Blk.row e ty.size ∨ mk=Blk.xrow true e ty.size) (hh:st.h[id]? = some (mk n gx)) (hb:Ci n m ty.bytes=true)
  (hp:F4 a o κ S st w K (.ref id,⟨kill.kills id st.t,(AU id st.h).set id (mk (Bh n m) (BY n m gx g))⟩)):o.wp P a w K Q:=by
 obtain ⟨i,d,hi,hd,_,hs,hby,hz,_⟩:=hτ.info hty;obtain ⟨z,hzi,hzs⟩:∃ z,i.zero=some z∧z.cells.size=ty.size:=by
  cases hzz:i.zero with
  | none=>rw [hzz] at hz; rw [hz] at hzc; simp [V.cells] at hzc
  | some z =>rw [hzz] at hz;have hz:ty.zero=ofValue z:=hz;have:=(Cp (S:=S) (w:=w) (κ:=κ) hzc (by rw [hz]; exact C4 z)).1.length;exact ⟨z,rfl,by rw [<- hzl,<- this]; simp⟩
 have hrow':∀ n g',Ge (mk n g') e ty.size n g':=λn g'=>by
  rcases hmk with rfl | rfl
  ·exact .inl rfl
  ·exact .inr ⟨_,rfl⟩
 have hrow:=hrow' n gx;have hb:(n+m) * ty.bytes <= 140737488355328:=by simpa [Ci] using hb
 obtain ⟨hs0,c0,xs,hk,ho,he⟩:=ZK hg hh hrow;obtain ⟨hk',_⟩:=hx;rw [hk] at hk';simp at hk';subst hk';obtain ⟨ay,c,news,rfl,hnl,hn1,hne,hwhere⟩:=hsrc;have h63:n+m <= maxLen:=by
  have:(n+m) * 1 <= (n+m) * ty.bytes:=Nat.mul_le_mul_left _ hbpos;unfold maxLen;omega
 obtain ⟨v',w',hap,hown',hgrow,hat,hkept⟩:∃ v' w',(Builtin.append_ #[t,t] o.type #[c0,.slice ay m c]).run P w = .ok v' w'∧w'.ownsRow 0 e ty.size v' (n+m) (xs++news) ∧
   w.grownBy w' c0.ownBlock∧(v'.ownBlock=c0.ownBlock ∨ v'.ownBlock=some w.heap.size)∧∀ k,Ak (some c0)=some k->E5 w w' k (n * ty.size):=by
  rcases hwhere with ⟨rfl,rfl⟩ | ⟨ad,rfl,hnews⟩
  ·have hnil:news=[]:=List.eq_nil_of_length_eq_zero (by simpa using hnl)
   subst hnil;have hsl:∃ base cap,c0 = .slice base n cap∧n <= cap:=by
    rcases ho.2 with ⟨rfl,h0⟩ | ⟨g',cap,cur,rfl,_,_,hnc,_⟩
    ·exact ⟨none,0,by rw [h0],by omega⟩
    ·exact ⟨_,cap,rfl,hnc⟩
   obtain ⟨base,cap,rfl,hnc⟩:=hsl;exact ⟨_,w,Ow htd hi base n cap c hnc,by simpa using ho,⟨rfl,rfl,rfl,Nat.le_refl _,λ_ _ _=>rfl⟩,.inl rfl,λk _=>E5.refl _ _ _⟩
  ·obtain ⟨v',w',q1,q2,q3,_,q5⟩:=run_append_own_at (P:=P) w 0 t o.type e i z ty.size ty.bytes htd hi hzi hs.symm hby.symm hzs hpos c0 n xs ho ad m c news hnl hnews hn1 h63 hb (Nat.zero_le _)
   refine ⟨v',w',q1,q2,q3,q5,λk hk'=>?_⟩;rcases ho.2 with ⟨rfl,h0⟩ | ⟨g',cap,cur,rfl,_,hgw,hnc,hcm,hcs,htake⟩
   ·cases hk'
   ·have hk':g'=k:=by simpa [Ak] using hk'
    subst hk';by_cases hroom:n+m <= cap
    ·have hfit:n * i.size+news.length <= cur.size:=by rw [hnl,hcs,<- hs,<- Nat.add_mul]; exact Nat.mul_le_mul_right _ hroom
     have hr:=run_append_room (P:=P) w t o.type e i htd hi g' n cap cur hgw ad m c news (by rw [hnl,hs]) hnews hn1 hroom hfit;rw [q1] at hr;injection hr with _ hw'
     rw [hw'];intro ca e1 z1 hca;rw [hgw] at hca;simp only [Option.some.injEq,Obj.cells.injEq] at hca;obtain ⟨rfl,rfl,rfl⟩:=hca;refine ⟨_,setRow_heap w g' cur _ e _ hgw,?_,λj hj=>?_⟩
     ·simp only [List.size_toArray,List.length_append,List.length_take,List.length_drop,Array.length_toList]
      omega
     ·rw [<- Array.getElem?_toList,List.toList_toArray,BE _ _ _ _ (by simpa using hfit),if_neg (by rw [<- hs]; omega),Array.getElem?_toList]
    ·have holds:∀ j u,xs[j]? = some u->w.cell? ((⟨g',0,none⟩:Addr).add j)=some u:=ho.cells (g:=g') rfl
     have hr:=run_append_grow (P:=P) w t o.type e i z htd hi hzi ⟨g',0,none⟩ n cap xs (by rw [ho.1,hs]) holds ad m c news (by rw [hnl,hs]) hnews (by omega) (by unfold maxLen at h63; omega) (growslice_fits (by omega) (by rw [<- hby]; exact hb));rw [q1] at hr;injection hr with _ hw'
     rw [hw'];exact E5.same (heap_alloc_old w.drew _ g' (Array.getElem?_eq_some_iff.1 hgw).1)
 have bo:∀ {v:Value} {nn:Nat} {ys:List Value} {ww:World},ww.ownsRow 0 e ty.size v nn ys->Ak (some v)=v.ownBlock:=by
  intro v nn ys ww h;rcases h.2 with ⟨rfl,_⟩ | ⟨g',cap,cur,rfl,_⟩ <;> rfl
 have hslice':∃ b nn cap,v' = .slice b nn cap:=by
  rcases hown'.2 with ⟨rfl,_⟩ | ⟨g',cap,cur,rfl,_⟩
  ·exact ⟨_,_,_,rfl⟩
  ·exact ⟨_,_,_,rfl⟩
 have hwk:∀ k,k<w.heap.size->Ak (κ id) ≠ some k->w'.heap[k]? = w.heap[k]?:=λk hk1 hk2=>hgrow.block k hk1 (by rw [hk,bo ho] at hk2; exact λe=>hk2 e.symm);have hS:∀ b,S b->S b∧w'.heap[b]? = w.heap[b]?:=λb hb=>⟨hb,hwk b (hg.out b hb).1 λeb=>(hg.out b hb).2 id ((hrow.plain.own hh).2 eb)⟩;have hap2:=Good.app (w':=w') (c':=v') (b':=mk (n+m) (BY n m gx g)) hg hh hrow (hrow' _ _).plain hwk hgrow.size
  (by rw [bo hown',hk,bo ho]; exact hat)
  (Ge.holds2 hrow' ⟨hs0,v',xs++news,rfl,hown',(he.mono hS).append (hne.mono hS) ho.1 (Qy n m gx g) (Qz n m gx g)⟩)
 obtain ⟨q1,q2,q3⟩:=hap2;unfold Oper.wp;rw [hrun,hap];refine hp (FW κ id v') S v' w' q1 (q2 _ _ ht) ⟨by simp [FW],.inl hslice'⟩ ?_;exact Ext.app hg hh hrow (hrow' (n+m) (BY n m gx g)).plain hgrow.os hgrow.tape hgrow.output hwk hgrow.size (by rw [bo hown',hk,bo ho]; exact hat)
  (λ_ _ _ _ h=>by rcases hmk with rfl | rfl <;> cases h)
  (λe1 s1 n1 g1 h=>by
   rcases hmk with rfl | rfl
   ·cases h
   ·cases h
    exact ⟨⟨_,_,rfl,Nat.le_add_right _ _⟩,λk hk2=>hkept k (by rw [<- hk]; exact hk2)⟩) q3
include hτ in
theorem OM (hg:Good κ S st.h w) (ht:VRs S w st.t κ a.tmps.toList) {t e:TypeId} {ty:Ty} {x:V} {cx cy:Value} {m:Nat} {g:Nat->V}
  (htd:P.underlying t=some (.slice e)) (hty:τ[e]? = some ty) {zc:List V} (hzc:ty.zero.cells=some zc) (hzl:zc.length=ty.size) (hpos:0<ty.size) (hbpos:0<ty.bytes)
  (hx:VR S w x κ cx) (hsrc:Rr S w ty.size m g cy)
  (hrun:(execOp a.eval o).run P w=((Builtin.append_ #[t,t] o.type #[cx,cy]).run P w).andThen λv w'=>.ok (.value v) w')
  (h:(SH ty e st x m g).sem=some r) (hp:F4 a o κ S st w K r):o.wp P a w K Q:=by
 unfold SH at h;split at h
 ·rename_i id
  split at h
  ·rename_i e' s n gx hh
   split at h
   ·rename_i hee hss
    have hee:e=e':=Nat.eq_of_beq_eq_true hee;have hss:s=ty.size:=Nat.eq_of_beq_eq_true hss;subst hee;subst hss;obtain ⟨hb,h2⟩:=Ab h;have hr:=Aa h2;subst hr;exact Qx (P:=P) hτ hg ht htd hty hzc hzl hpos hbpos hx hsrc hrun (.inl rfl) hh hb hp
   ·cases h
  ·rename_i e' s n gx hh
   split at h
   ·rename_i hee hss
    have hee:e=e':=Nat.eq_of_beq_eq_true hee;have hss:s=ty.size:=Nat.eq_of_beq_eq_true hss;subst hee;subst hss;obtain ⟨hb,h2⟩:=Ab h;have hr:=Aa h2;subst hr;exact Qx (P:=P) hτ hg ht htd hty hzc hzl hpos hbpos hx hsrc hrun (.inr rfl) hh hb hp
   ·cases h
  ·cases h
 ·cases h
theorem F4.ext {κ1:Ai} {st1:St} (hp:F4 a o κ S st w K r) (he:Ext κ S st.h w κ1 S st1.h w):F4 a o κ1 S st1 w K r :=
 λκ' S' c w' q1 q2 q3 q4=>hp κ' S' c w' q1 q2 q3 (he.trans q4)
def Gf (κ:Ai) (S:Nat->Prop) (st:St) (w:World) (l:List Value) (st':St) (κ':Ai):Prop :=
 Good κ' S st'.h w∧VRs S w st'.t κ' l∧Ext κ S st.h w κ' S st'.h w∧∀ id c,κ id=some c->κ' id=some c
theorem Gf.refl (hg:Good κ S st.h w) {l:List Value} (ht:VRs S w st.t κ l):Gf κ S st w l st κ:=⟨hg,ht,Ext.refl _ _ _ _,λ_ _ h=>h⟩
theorem Gf.trans {st1 st2:St} {κ1 κ2:Ai} {l:List Value} (h:Gf κ S st w l st1 κ1) (h':Gf κ1 S st1 w l st2 κ2):Gf κ S st w l st2 κ2 :=
 ⟨h'.1,h'.2.1,h.2.2.1.trans h'.2.2.1,λid c q=>h'.2.2.2 id c (h.2.2.2 id c q)⟩
theorem Gf.vr {st1:St} {κ1:Ai} {l:List Value} (h:Gf κ S st w l st1 κ1) {v:V} {c:Value} (hv:VR S w v κ c):VR S w v κ1 c :=
 VR.mono (λ_ hb=>⟨hb,rfl⟩) _ _ _ _ h.2.2.2 hv
theorem PS {l:List Value} (hg:Good κ S st.h w) (ht:VRs S w st.t κ l) {t:TypeId} {r:V×St} (h:(Oc τ st t .nilS).sem=some r) :
  ∃ κ',Gf κ S st w l r.2 κ'∧VR S w r.1 κ' (.slice none 0 0):=by
 have same:r=(.nilS,st)->∃ κ',Gf κ S st w l r.2 κ'∧VR S w r.1 κ' (.slice none 0 0):=λe=>by
  subst e;exact ⟨κ,Gf.refl hg ht,rfl⟩
 unfold Oc at h;simp only at h;split at h
 ·split at h
  ·split at h
   ·rename_i te hte
    split at h
    ·rename_i hpos
     have row:∀ e,(Ea st (.row e te.size 0 λ_=>.und) .ref).sem=some r->∃ κ',Gf κ S st w l r.2 κ'∧VR S w r.1 κ' (.slice none 0 0):=λe h=>by
      have hr:=Aa h;subst hr;have hB:A7 S w (AZ κ st.h.length (.slice none 0 0)) (some (.slice none 0 0)) (.row e te.size 0 λ_=>.und):=⟨by simpa using hpos,_,[],rfl,World.ownsRow_nil w 0 _ _,λi hi=>absurd hi (Nat.not_lt_zero _)⟩;exact ⟨_,⟨hg.push (w':=w) _ _ (λ_ _=>rfl) (Nat.le_refl _) hB (.inl rfl) trivial,VR.mono_go (λ_ hb=>⟨hb,rfl⟩) _ _ _ _ (hg.addK_sub _) ht,
       Ext.push (κ:=κ) (S:=S) (w:=w) (w':=w) (h:=st.h) _ _ (λ_ _=>rfl) (Nat.le_refl _) rfl rfl rfl (.inl rfl) trivial (λ_ _ _ _ h=>by cases h),hg.addK_sub _⟩,by simp [AZ],.inl ⟨_,_,_,rfl⟩⟩
     split at h
     ·rename_i e2 hk2
      split at h
      ·rename_i off e' s' hsl
       obtain ⟨rfl,_,hs',_⟩:=Sb hte hk2 hsl;have hr:=Aa h;subst hr;refine ⟨AZ κ st.h.length (.tuple #[.slice none 0 0,.agg #[]]),⟨hg.push' (w':=w) _ _ (λ_ _=>rfl) (Nat.le_refl _) ?_ ?_,VR.mono_go (λ_ hb=>⟨hb,rfl⟩) _ _ _ _ (hg.addK_sub _) ht,
        Ext.push' (κ:=κ) (S:=S) (w:=w) (w':=w) (h:=st.h) _ _ (λ_ _=>rfl) (Nat.le_refl _) rfl rfl rfl ?_ (Bj _),hg.addK_sub _⟩,⟨#[],by simp [AZ],none,0,0,rfl⟩⟩
       ·exact ⟨_,_,[],rfl,Ue _ _ _ _ _ (by simpa using hpos) (by simpa using hpos) hs' _ _ _ _⟩
       all_goals
        rintro g ⟨c,ms,e,hg⟩
        obtain ⟨rfl,rfl⟩:=AC e;rcases hg with hg | ⟨i,m,hm,_⟩
        ·cases hg
        ·simp at hm
      ·exact same (Aa h)
     ·exact row _ h
    ·exact same (Aa h)
   ·exact same (Aa h)
  ·exact same (Aa h)
 ·exact same (Aa h)
theorem MN {l:List Value}:∀ (fs:List (Nat×Nat)) (st:St) (cs:List V) (κ:Ai) (ca:List Value) (r:List V×St),Good κ S st.h w->VRs S w st.t κ l->VRs S w cs κ ca ->
  (Pi τ fs st cs).sem=some r->∃ κ',Gf κ S st w l r.2 κ'∧VRs S w r.1 κ' ca
 | [],st,cs,κ,ca,r,hg,ht,hc,h=>by
  have hr:=Aa h;subst hr;exact ⟨κ,Gf.refl hg ht,hc⟩
 | (off,t)::fs,st,cs,κ,ca,r,hg,ht,hc,h=>by
   simp only [Pi] at h;split at h
   ·rename_i ho
    obtain ⟨⟨v,st1⟩,h1,h2⟩:=Ad h;obtain ⟨κ1,g1,g2⟩:=PS hg ht h1;have hca:ca.set off (.slice none 0 0)=ca:=by
     have h3:=hc.nth off undef;have hlt:=(List.getElem?_eq_some_iff.1 ho).1;have hlc:off<ca.length:=by rw [hc.length]; exact hlt
     rw [KL,ho] at h3;have h3:ca.getD off undef = .slice none 0 0:=h3;have h4:ca[off]? = some (.slice none 0 0):=by
      rw [List.getElem?_eq_getElem hlc];rw [List.getD_eq_getElem?_getD,List.getElem?_eq_getElem hlc] at h3;exact congrArg some h3
     apply List.ext_getElem?;intro i;rw [List.getElem?_set];split
     ·rename_i hi
      subst hi
      first | exact h4.symm | (rw [if_pos hlc]; exact h4.symm)
     ·rfl
    have hc1:VRs S w (cs.set off v) κ1 ca:=by
     rw [<- hca];exact VRs.set off (VR.mono_go (λ_ hb=>⟨hb,rfl⟩) _ _ _ _ g1.2.2.2 hc) g2
    obtain ⟨κ2,g3,g4⟩:=MN fs st1 _ κ1 ca r g1.1 g1.2.1 hc1 h2;exact ⟨κ2,g1.trans g3,g4⟩
   ·exact MN fs st cs κ ca r hg ht hc h
theorem AbJ {l:List Value} (hg:Good κ S st.h w) (ht:VRs S w st.t κ l) {t:TypeId} {v:V} {c:Value} (hv:VR S w v κ c) {r:V×St} (h:(upV τ st t v).sem=some r) :
  ∃ κ',Gf κ S st w l r.2 κ'∧VR S w r.1 κ' c:=by
 have same:r=(v,st)->∃ κ',Gf κ S st w l r.2 κ'∧VR S w r.1 κ' c:=λe=>by
  subst e;exact ⟨κ,Gf.refl hg ht,hv⟩
 unfold upV at h;split at h
 ·have hv:c = .slice none 0 0:=hv
  subst hv;exact PS hg ht h
 ·split at h
  ·split at h
   ·obtain ⟨⟨cs',st'⟩,h1,h2⟩:=Ad h
    have hr:=Aa h2;subst hr;obtain ⟨ca,rfl,hc⟩:=hv;obtain ⟨κ',g1,g2⟩:=MN _ st _ κ ca _ hg ht hc h1;exact ⟨κ',g1,ca,rfl,g2⟩
   ·exact same (Aa h)
  ·exact same (Aa h)
 ·exact same (Aa h)
theorem cut_ok (hg:Good κ S st.h w) {l:List Value} (ht:VRs S w st.t κ l) {id k n s:Nat} {e:TypeId} {gx:Nat->V} {c:Value} (hh:st.h[id]? = some (.row e s n gx)) (hx:VR S w (.rct id k) κ c) :
  ∃ κ1,Good κ1 S ((AU id st.h).set id (.row e s k gx)) w∧VRs S w (kill.kills id st.t) κ1 l∧Ext κ S st.h w κ1 S ((AU id st.h).set id (.row e s k gx)) w∧VR S w (.ref id) κ1 c∧∀ i off u,VR S w (.ptr i off) κ u->VR S w (.ptr i off) κ1 u:=by
 obtain ⟨a0,n1,cap0,hk',hle,rfl⟩:=hx;obtain ⟨hs0,c0,xs,hk0,ho,he⟩:=E2 hg hh;rw [hk0] at hk';simp at hk';subst hk';obtain ⟨b1,cap1,h3⟩:=Br ho;simp at h3;obtain ⟨rfl,rfl,rfl⟩:=h3;have ho':w.ownsRow 0 e s (.slice a0 k cap0) k (xs.take (k * s)):=by
  refine ⟨by rw [List.length_take,ho.1]; exact Nat.min_eq_left (Nat.mul_le_mul_right _ hle),?_⟩;rcases ho.2 with ⟨h1,h0⟩ | ⟨g',cap,cur,h1,hb,hw,hnc,hcm,hsz,htk⟩
  ·simp at h1
   obtain ⟨rfl,_,rfl⟩:=h1;left;have:k=0:=by omega
   subst this;exact ⟨rfl,rfl⟩
  ·simp at h1
   obtain ⟨rfl,rfl⟩:=h1;refine .inr ⟨g',cap0,cur,rfl,hb,hw,by omega,hcm,hsz,?_⟩;rw [<- htk,List.take_take,Nat.min_eq_left (Nat.mul_le_mul_right _ hle)]
 have he':CS S w s k gx (xs.take (k * s)):=λi hi=>by
  obtain ⟨ci,r1,r2,r3,r4⟩:=he i (by omega);refine ⟨ci,r1,r2,r3,λj hj=>?_⟩;rw [List.getElem?_take,if_pos (Dw hi hj)];exact r4 j hj
 have hsame:∀ q,inBlk (some (Value.slice a0 k cap0)) q (.row e s k gx)->inBlk (κ id) q (.row e s n1 gx):=λq hq=>by
  rw [hk0];unfold inBlk Ak at hq ⊢;cases a0
  ·simp at hq
  ·simpa using hq
 have hp:Jd (κ id):=λa=>by rw [hk0]; simp
 obtain ⟨g1,g2,g3⟩:=Good.turn (w':=w) (S':=S) hg (b':=.row e s k gx) (c':=.slice a0 k cap0) hh hp (λb hb=>⟨hb,rfl⟩)
  (λq hq=>⟨(hg.out q hq).1,λi _=>(hg.out q hq).2 i,λhi=>(hg.out q hq).2 id ((Aq hh).2 (hsame q hi))⟩) (λ_ _ _=>rfl) (λq hq=>.inl (hsame q hq)) ⟨hs0,_,_,rfl,ho',he'⟩
 refine ⟨_,g1,g2 _ _ ht,Ext.turn (w':=w) (S':=S) hg hh rfl rfl rfl (Nat.le_refl _) (λ_ _ _=>rfl) (λq hq=>.inl (hsame q hq)) (λq hq=>.inl hq) (λ_ hq=>hq) (by simp [CB]) (λ_ _ _ _ h=>by cases h) g3,?_⟩;refine ⟨⟨FA _ _ _,.inl ⟨_,_,_,rfl⟩⟩,λi off u hu=>?_⟩;obtain ⟨g,h1,h2⟩:=hu;exact ⟨g,by rw [FM (λe=>by rw [e,hk0] at h1; cases h1)]; exact h1,h2⟩
include hτ in
theorem VS (hg:Good κ S st.h w) (ht:VRs S w st.t κ a.tmps.toList) {t e:TypeId} {ty:Ty} {x:V} {cx cy:Value} {m:Nat} {g:Nat->V}
  (htd:P.underlying t=some (.slice e)) (hty:τ[e]? = some ty) {zc:List V} (hzc:ty.zero.cells=some zc) (hzl:zc.length=ty.size) (hpos:0<ty.size) (hbpos:0<ty.bytes)
  (hx:VR S w x κ cx) (hsrc:Rr S w ty.size m g cy)
  (hrun:(execOp a.eval o).run P w=((Builtin.append_ #[t,t] o.type #[cx,cy]).run P w).andThen λv w'=>.ok (.value v) w')
  (h:(Zo ty e st x m g).sem=some r) (hp:F4 a o κ S st w K r):o.wp P a w K Q:=by
 unfold Zo at h;split at h
 ·have hcx:cx = .slice none 0 0:=hx
  subst hcx;have hB:A7 S w (AZ κ st.h.length (.slice none 0 0)) (some (.slice none 0 0)) (.row e ty.size 0 λ_=>.und):=⟨hpos,_,[],rfl,World.ownsRow_nil w 0 _ _,λi hi=>absurd hi (Nat.not_lt_zero _)⟩;have hg1:=hg.push (w':=w) (.row e ty.size 0 λ_=>.und) (.slice none 0 0) (λ_ _=>rfl) (Nat.le_refl _) hB (.inl rfl) trivial;have he1:=Ext.push (κ:=κ) (S:=S) (w:=w) (w':=w) (h:=st.h) (.row e ty.size 0 λ_=>.und) (.slice none 0 0) (λ_ _=>rfl) (Nat.le_refl _) rfl rfl rfl (.inl rfl) trivial (λ_ _ _ _ h=>by cases h);have ht1:VRs S w st.t (AZ κ st.h.length (.slice none 0 0)) a.tmps.toList:=VR.mono_go (λ_ hb=>⟨hb,rfl⟩) _ _ _ _ (hg.addK_sub _) ht;exact OM (P:=P) (st:=⟨st.t,st.h++[.row e ty.size 0 λ_=>.und]⟩) hτ hg1 ht1 htd hty hzc hzl hpos hbpos (x:=.ref st.h.length) ⟨by simp [AZ],.inl ⟨_,_,_,rfl⟩⟩ hsrc hrun h (hp.ext he1)
 ·rename_i id i
  obtain ⟨st1,k1,k2⟩:=Ad h;obtain ⟨κ1,j,_,_,_,q1,q2,q3,q4,_⟩:=Iu hg ht hx k1;exact OM (P:=P) (st:=st1) hτ q1 q2 htd hty hzc hzl hpos hbpos q4 hsrc hrun k2 (hp.ext q3)
 ·rename_i id k
  split at h
  ·rename_i e' s n gx hh
   obtain ⟨κ1,q1,q2,q3,q4,_⟩:=cut_ok hg ht hh hx;exact OM (P:=P) (st:=⟨kill.kills id st.t,(AU id st.h).set id (.row e' s k gx)⟩) hτ q1 q2 htd hty hzc hzl hpos hbpos q4 hsrc hrun h (hp.ext q3)
  ·cases h
 ·exact OM (P:=P) hτ hg ht htd hty hzc hzl hpos hbpos hx hsrc hrun h hp
include hτ in
theorem VU (hg:Good κ S st.h w) (ht:VRs S w st.t κ a.tmps.toList) {t e:TypeId} {ty:Ty} {cx cy:Value} {id id':Nat}
  (htd:P.underlying t=some (.slice e)) (hty:τ[e]? = some ty) {zc:List V} (hzc:ty.zero.cells=some zc) (hzl:zc.length=ty.size) (hbpos:0<ty.bytes)
  (hx:VR S w (.jref id) κ cx) (hy:VR S w (.jref id') κ cy)
  (hrun:(execOp a.eval o).run P w=((Builtin.append_ #[t,t] o.type #[cx,cy]).run P w).andThen λv w'=>.ok (.value v) w')
  (h:(Zp ty e st id id').sem=some r) (hp:F4 a o κ S st w K r):o.wp P a w K Q:=by
 unfold Zp at h;split at h
 ·rename_i j y hh hh'
  split at h
  rotate_left
  ·cases h
  rename_i hjm hym;split at h
  ·rename_i e1 e2 e3 e4 e5 e6 e7 e8
   have e1:j.e=e:=Nat.eq_of_beq_eq_true e1;have e2:j.size=y.size:=Nat.eq_of_beq_eq_true e2;have e3:j.off=y.off:=Nat.eq_of_beq_eq_true e3;have e4:j.e'=y.e':=Nat.eq_of_beq_eq_true e4;have e5:j.s'=y.s':=Nat.eq_of_beq_eq_true e5;have e6:y.n=1:=Nat.eq_of_beq_eq_true e6;have e7:j.size=ty.size:=Nat.eq_of_beq_eq_true e7;have hne:id ≠ id':=Nat.ne_of_beq_eq_false e8;obtain ⟨hl0,h⟩:=Ab h;obtain ⟨hb,h⟩:=Ab h;have:=Aa h;subst this;obtain ⟨i,d,hi,hd,_,hs,hby,hz,_⟩:=hτ.info hty;obtain ⟨z,hzi,hzs⟩:∃ z,i.zero=some z∧z.cells.size=ty.size:=by
    cases hzz:i.zero with
    | none=>rw [hzz] at hz; rw [hz] at hzc; simp [V.cells] at hzc
    | some z =>rw [hzz] at hz;have hz:ty.zero=ofValue z:=hz;have:=(Cp (S:=S) (w:=w) (κ:=κ) hzc (by rw [hz]; exact C4 z)).1.length;exact ⟨z,rfl,by rw [<- hzl,<- this]; simp⟩
   have hmpn:mpN j=0:=by unfold mpN; rw [hjm]
   have hb:(j.n+1) * ty.bytes <= 140737488355328:=by simpa [Ci] using hb
   have h63:j.n+1 <= maxLen:=by
    have:(j.n+1) * 1 <= (j.n+1) * ty.bytes:=Nat.mul_le_mul_left _ hbpos;unfold maxLen;omega
   obtain ⟨c,ms,xs,hk,hj⟩:=Cd hg hh;obtain ⟨c',ms',ys,hk',hjy⟩:=Cd hg hh';obtain ⟨msx,hx1,_⟩:=hx;rw [hk] at hx1;obtain ⟨rfl,rfl⟩:=AC hx1;obtain ⟨msy,hy1,_⟩:=hy;rw [hk'] at hy1;obtain ⟨rfl,rfl⟩:=AC hy1;obtain ⟨m0,hm0⟩:=hjy.at (i:=0) (by omega);obtain ⟨hy0,zs,hoz,hez⟩:=hjy.mem hm0 (by omega) hl0;have hslm:∃ a n cap,m0 = .slice a n cap:=by
    obtain ⟨a,cap,q⟩:=Br hoz;exact ⟨a,_,cap,q⟩
   obtain ⟨g1,g2,g3,g4,g5,g6,g7,g8,g9⟩:=hj;obtain ⟨f1,f2,f3,f4,f5,f6,f7,f8,f9⟩:=hjy;rw [<- e2,e6] at f5;have hyl:ys.length=1 * ty.size:=by rw [f5.1,e7]
   obtain ⟨gy,capy,cury,rfl,hgyw,hcy1,_,_,htakey⟩:=D1 f5 (by omega);have hnews:∀ q u,ys[q]? = some u->w.cell? ((⟨gy,0,none⟩:Addr).add q)=some u:=λq u hq=>by
    rw [Dl,Nat.zero_add,cell_of_row w gy q cury _ (0,0) hgyw];rw [<- htakey,List.getElem?_take] at hq;split at hq
    ·simpa using hq
    ·cases hq
   rw [e1,e7] at g5;obtain ⟨v',w',hap,hown',hgrow,_,hat⟩:=run_append_own_at (P:=P) w 0 t o.type e i z ty.size ty.bytes htd hi hzi hs.symm hby.symm hzs (by omega) c j.n xs g5 ⟨gy,0,none⟩ 1 capy ys hyl hnews f6 h63 hb (Nat.zero_le _);have bo:∀ {v:Value} {nn:Nat} {ys:List Value} {ww:World},ww.ownsRow 0 e ty.size v nn ys->Ak (some v)=v.ownBlock:=by
    intro v nn ys ww h;rcases h.2 with ⟨rfl,_⟩ | ⟨g',cap,cur,rfl,_⟩ <;> rfl
   have htop:∀ k,Ak (some c)=some k->A3 κ st.h id k:=λk hk2=>(Aq hh).2 (by rw [hk]; exact DD hk2);have hmem:∀ q m k,ms[q]? = some m->Ak (some m)=some k->A3 κ st.h id k:=λq m k hq hk2=>(Aq hh).2 (by rw [hk]; exact BU hq hk2);have hm0o:∀ k,Ak (some m0)=some k->A3 κ st.h id' k:=λk hk2=>(Aq hh').2 (by rw [hk']; exact BU hm0 hk2);have hwk:∀ k,k<w.heap.size->Ak (some c) ≠ some k->w'.heap[k]? = w.heap[k]?:=λk hk1 hk2=>hgrow.block k hk1 (by rw [bo g5] at hk2; exact λe=>hk2 e.symm);have hv':∀ k,Ak (some v')=some k->Ak (some c)=some k ∨ w.heap.size <= k:=λk hk2=>by
    rw [bo hown'] at hk2;rw [bo g5];rcases hat with q | q
    ·exact .inl (by rw [<- q]; exact hk2)
    ·rw [q] at hk2; simp at hk2; exact .inr (by omega)
   obtain ⟨av,capv,hvs⟩:=Br hown'
   let κ1:=FW κ id (.tuple #[v',.agg (ms.push m0)])
   have hκid:κ1 id=some (.tuple #[v',.agg (ms.push m0)]):=FA _ _ _;have hκne:∀ q,q ≠ id->κ1 q=κ q:=λq h1=>FM h1;have hS0:∀ b,S b->S b∧w.heap[b]? = w.heap[b]?:=λ_ hb=>⟨hb,rfl⟩;have hS:∀ b,S b->S b∧w'.heap[b]? = w.heap[b]?:=λb hb=>⟨hb,hwk b (hg.out b hb).1 λe=>(hg.out b hb).2 id (htop b e)⟩;have np:Jd (κ id):=λa=>by rw [hk]; simp
   have np':Jd (κ id'):=λa=>by rw [hk']; simp
   have hkill1:∀ (vs:List V) (l:List Value),VRs S w vs κ l->VRs S w (kill.kills id' vs) κ l:=λvs l hv=>Dm hS0 np' (λ_ _=>rfl) vs l hv;have hkill2:∀ (vs:List V) (l:List Value),VRs S w vs κ l->VRs S w' (kill.kills id vs) κ1 l:=λvs l hv=>Dm hS np hκne vs l hv;have hlen:id<st.h.length:=(List.getElem?_eq_some_iff.1 hh).1;have hlen':id'<st.h.length:=(List.getElem?_eq_some_iff.1 hh').1;have hset:∀ (B:Blk) q,q ≠ id->q ≠ id'->(((AU id (AU id' st.h)).set id' .dead).set id B)[q]? = (st.h[q]?).map (λb=>Fj id (Fj id' b)):=λB q h1 h2=>by
    rw [List.getElem?_set_ne (Ne.symm h1),List.getElem?_set_ne (Ne.symm h2),CW,CW,Option.map_map];rfl
   have hat1:∀ (B:Blk),(((AU id (AU id' st.h)).set id' .dead).set id B)[id]? = some B:=λB =>
    List.getElem?_set_self (by simpa [AI] using hlen)
   have hat2:∀ (B:Blk),(((AU id (AU id' st.h)).set id' .dead).set id B)[id']? = some .dead:=λB=>by
    rw [List.getElem?_set_ne hne,List.getElem?_set_self (by simpa [AI] using hlen')]
   have hpush:∀ q m,(ms.push m0)[q]? = some m->(q=j.n∧m=m0) ∨ (q ≠ j.n∧ms[q]? = some m):=λq m hq=>by
    rw [Array.getElem?_push,g4,hmpn,Nat.add_zero] at hq;by_cases hqn:q=j.n
    ·rw [if_pos hqn] at hq
     exact .inl ⟨hqn,(Option.some.inj hq).symm⟩
    ·rw [if_neg hqn] at hq
     exact .inr ⟨hqn,hq⟩
   have hxl:xs.length=j.n * j.size:=by rw [g5.1,e7]
   have hr:Regroup κ st.h w κ1 (((AU id (AU id' st.h)).set id' .dead).set id (.jag { j with n:=Bh j.n 1,get:=AA j.n j.get (y.get 0),live:=Da j.live j.n true,len:=Dq j.len j.n (y.len 0),mem:=Dz j.mem j.n (y.mem 0) })) w' S (λq=>q=id ∨ q=id') (λb=>Fj id (Fj id' b)):=by
    refine ⟨λq hq=>⟨hset _ q (λe=>hq (.inl e)) (λe=>hq (.inr e)),hκne q (λe=>hq (.inl e))⟩,(Gb id).comp (Gb id'),λq b _ _ hb hh=>?_,λk hk1 hk2=>hwk k hk1 λe=>hk2 id (.inl rfl) (htop k e),hgrow.size,
     λq b hq hb=>?_,λq k hq ho'=>?_,λq q' k hq hq' hne' h1 h2=>?_,λq hq=>?_,λq e s n g hq=>?_,λq b hq hb=>?_⟩
    ·exact A7.kill hS hkill2 (λk hk=>hb k (EX.1 hk)) (A7.kill hS0 hkill1 (λ_ _=>rfl) hh)
    ·rcases hq.imp Eq.symm Eq.symm with rfl | rfl
     ·rw [hat1] at hb
      simp only [Option.some.injEq] at hb;subst hb;rw [hκid];refine ⟨v',_,xs++ys,rfl,g1,g2,g3,by unfold mpN at g4 ⊢; rw [hjm] at g4 ⊢; simpa [Bh] using g4,by rw [e1,e7]; exact hown',λu hu=>?_,λk hkn=>?_,λq m hq=>?_,λq m k hq hkm=>?_⟩
      ·rcases List.mem_append.1 hu with hu | hu
       ·exact g6 u hu
       ·exact f6 u hu
      ·have hkn:k<j.n+1:=hkn
       show ∃ ci,VR S w' (AA j.n j.get (y.get 0) k) noK ci∧ci.cells.size=j.size∧_∧_;rw [BS];by_cases hkj:k=j.n
       ·subst hkj
        obtain ⟨ck,z1,z2,z3,z4⟩:=f7 0 (by omega);refine ⟨ck,by rw [Nat.beq_refl]; exact VR.mono hS _ _ _ _ (λ_ _ h=>h) z1,by rw [z2,e2],z3,λp hp hpo _=>?_⟩;have hp:p<j.size:=hp;have hpo:p ≠ j.off:=hpo;show (xs++ys)[j.n * j.size+p]? = _;rw [List.getElem?_append_right (by omega),hxl,Nat.add_sub_cancel_left];have:=z4 p (by rw [<- e2]; exact hp) (by rw [<- e3]; exact hpo) (λq hq=>by rw [hym] at hq; cases hq);rw [Nat.zero_mul,Nat.zero_add] at this;exact this
       ·obtain ⟨ck,z1,z2,z3,z4⟩:=g7 k (by omega)
        refine ⟨ck,by rw [Tc hkj]; exact VR.mono hS _ _ _ _ (λ_ _ h=>h) z1,z2,z3,λp hp hpo _=>?_⟩;have hp:p<j.size:=hp;have hpo:p ≠ j.off:=hpo;show (xs++ys)[k * j.size+p]? = _;have:=Dw (show k<j.n by omega) hp;rw [List.getElem?_append_left (by omega)];exact z4 p hp hpo (λq hq=>by rw [hjm] at hq; cases hq)
      ·rcases hpush q m hq with ⟨rfl,rfl⟩ | ⟨hqn,hq⟩
       ·refine .inl ⟨Nat.lt_succ_self _,?_⟩
        unfold HF;show (match Da j.live j.n true j.n with | true=>_ | false=>_)
        rw [JP];refine ⟨?_,zs,?_,?_⟩
        ·show (xs++ys)[j.n * j.size+j.off]? = _
         rw [List.getElem?_append_right (by omega),hxl,Nat.add_sub_cancel_left];rw [Nat.zero_mul,Nat.zero_add,<- e3] at hy0;exact hy0
        ·show w'.ownsRow 0 j.e' j.s' m (Dq j.len j.n (y.len 0) j.n) zs
         rw [G6,e4,e5];exact BQ hoz λk hb2=>hwk k (hg.lt (hm0o k hb2)) λe=>hg.sep id id' k hne (htop k e) (hm0o k hb2)
        ·show CS S w' j.s' (Dq j.len j.n (y.len 0) j.n) (Dz j.mem j.n (y.mem 0) j.n) zs
         rw [G6,G7,e5];exact hez.mono hS
       ·rcases g8 q m hq with ⟨hqlt,h8⟩ | ⟨u,k,h81,_⟩
        ·refine .inl ⟨Nat.lt_succ_of_lt hqlt,h8.re hS (λk hb2=>hwk k (hg.lt (hmem q m k hq hb2)) λe=>(g9 q m k hq hb2).1 e) rfl rfl rfl rfl (O7 hqn) (O5 hqn) (JM hqn) ?_⟩
         have:=Dw hqlt g3.1;rw [List.getElem?_append_left (by omega)]
        ·rw [hjm] at h81
         cases h81
      ·rcases hpush q m hq with ⟨rfl,rfl⟩ | ⟨hqn,hq2⟩
       ·refine ⟨λe=>?_,λq' m' hne' hq' e=>?_⟩
        ·rcases hv' k e with h3 | h3
         ·exact hg.sep id id' k hne (htop k h3) (hm0o k hkm)
         ·have:=hg.lt (hm0o k hkm); omega
        ·rcases hpush q' m' hq' with ⟨h4,_⟩ | ⟨_,hq'⟩
         ·exact hne' h4
         ·exact hg.sep id id' k hne (hmem q' m' k hq' e) (hm0o k hkm)
       ·refine ⟨λe=>?_,λq' m' hne' hq' e=>?_⟩
        ·rcases hv' k e with h3 | h3
         ·exact (g9 q m k hq2 hkm).1 h3
         ·have:=hg.lt (hmem q m k hq2 hkm); omega
        ·rcases hpush q' m' hq' with ⟨_,rfl⟩ | ⟨_,hq3⟩
         ·exact hg.sep id id' k hne (hmem q m k hq2 hkm) (hm0o k e)
         ·exact (g9 q m k hq2 hkm).2 q' m' hne' hq3 e
     ·rw [hat2] at hb
      simp only [Option.some.injEq] at hb;subst hb;trivial
    ·rcases hq.imp Eq.symm Eq.symm with rfl | rfl
     ·rw [Aq (hat1 _),hκid] at ho'
      obtain ⟨c',ms',e,hkb⟩:=ho';obtain ⟨rfl,rfl⟩:=AC e;rcases hkb with hkb | ⟨q',m,hq',hkb⟩
      ·exact (hv' k hkb).imp (λh3=>⟨id,.inl rfl,htop k h3⟩) (λh=>h)
      ·rcases hpush q' m hq' with ⟨rfl,rfl⟩ | ⟨_,hq'⟩
       ·exact .inl ⟨id',.inr rfl,hm0o k hkb⟩
       ·exact .inl ⟨id,.inl rfl,hmem q' m k hq' hkb⟩
     ·rw [Aq (hat2 _)] at ho'
      exact ho'.elim
    ·rcases hq.imp Eq.symm Eq.symm with rfl | rfl <;> rcases hq'.imp Eq.symm Eq.symm with rfl | rfl
     ·exact hne' rfl
     ·rw [Aq (hat2 _)] at h2; exact h2.elim
     ·rw [Aq (hat2 _)] at h1; exact h1.elim
     ·exact hne' rfl
    ·simp [AI] at hq
     rw [hκne q (by omega)];exact hg.dom q hq
    ·rcases hq.imp Eq.symm Eq.symm with rfl | rfl
     ·rw [hh]; simp
     ·rw [hh']; simp
    ·intro hf
     rcases hq.imp Eq.symm Eq.symm with rfl | rfl
     ·rw [hat1] at hb
      simp only [Option.some.injEq] at hb;subst hb;exact Bj _ hf
     ·rw [hat2] at hb
      simp only [Option.some.injEq] at hb;subst hb;rcases hf with ⟨_,_,_,_,hf⟩ | ⟨_,hf⟩ <;> cases hf
   unfold Oper.wp;rw [hrun,hap];exact hp κ1 S v' w' (hg.regroup hr) (hkill2 _ _ (hkill1 _ _ ht)) ⟨_,hκid,_,_,_,hvs⟩ (Ext.regroup hg hr hgrow.os hgrow.tape hgrow.output)
  ·cases h
 ·cases h
include hτ in
theorem Abl (hg:Good κ S st.h w) (ht:VRs S w st.t κ a.tmps.toList) {t:TypeId} {x y:V} {cx cy:Value} (hx:VR S w x κ cx) (hy:VR S w y κ cy)
  (hrun:(execOp a.eval o).run P w=((Builtin.append_ #[t,t] o.type #[cx,cy]).run P w).andThen λv w'=>.ok (.value v) w')
  (h:(UE τ st t x y).sem=some r) (hp:F4 a o κ S st w K r):o.wp P a w K Q:=by
 unfold UE at h;split at h
 ·rename_i ts hts
  obtain ⟨_,d,_,hd,hk,_⟩:=hτ.info hts;split at h
  ·rename_i e hkk
   rw [hkk] at hk;have:=Ee hk.symm;subst this;split at h
   ·rename_i ty hty
    split at h
    ·rename_i zc hzc
     split at h
     ·rename_i h1 h2 h3
      have h1:zc.length=ty.size:=Nat.eq_of_beq_eq_true h1;have h2:0<ty.size:=by simpa using h2
      have h3:0<ty.bytes:=by simpa using h3
      split at h
      ·rename_i id'
       split at h
       ·rename_i e' s' m g hh
        split at h
        ·rename_i hs
         have hs:s'=ty.size:=Nat.eq_of_beq_eq_true hs;subst hs;exact VS (P:=P) hτ hg ht hd hty hzc h1 h2 h3 hx (WY hg hh hy) hrun h hp
        ·cases h
       ·cases h
      ·rename_i s' m g
       split at h
       ·rename_i hs
        have hs:s'=ty.size:=Nat.eq_of_beq_eq_true hs;subst hs;exact VS (P:=P) hτ hg ht hd hty hzc h1 h2 h3 hx (Aah h2 hy) hrun h hp
       ·cases h
      ·rename_i id'
       split at h
       ·exact VU (P:=P) hτ hg ht hd hty hzc h1 h3 hx hy hrun h hp
       ·obtain ⟨r1,k1,k2⟩:=Ad h
        have hcx:cx = .slice none 0 0:=hx;subst hcx;obtain ⟨κ1,q1,q2⟩:=PS hg ht k1;split at k2
        ·rename_i id hid
         rw [hid] at q2;exact VU (P:=P) (st:=r1.2) hτ q1.1 q1.2.1 hd hty hzc h1 h3 q2 (q1.vr hy) hrun k2 (hp.ext q1.2.2.1)
        ·cases k2
       ·cases h
      ·cases h
     ·cases h
    ·cases h
   ·cases h
  ·cases h
 ·cases h
theorem RD (z:Array Value) (n s i j:Nat) (hz:z.size=s) (hi:i<n) (hj:j<s):(madeCells z (n * s)).toList[i * s+j]? = z[j]?:=by
 have hlt:=Dw hi hj;have hm:(i * s+j) % s=j:=by rw [Nat.mul_add_mod_self_right]; exact Nat.mod_eq_of_lt hj
 have hjz:j<z.size:=by omega
 simp [madeCells,hlt,hz,hm,getElem!_pos z j hjz]
theorem KN {τ:List Ty} {zc:List V} {off:Nat} {q:Mp}:∀ {l:List (Nat×Nat)},V0 τ l zc off=some q->zc[q.off]? = some (.val (.map none))∧q.off ≠ off∧q.live=λ_=>false
 | (o,t)::l,h=>by
   unfold V0 at h;split at h
   ·split at h
    ·rename_i h1 h2
     cases h;exact ⟨h1,Nat.ne_of_beq_eq_false h2,rfl⟩
    ·exact KN h
   ·exact KN h
theorem TQ {τ:List Ty} {te:Ty} {zc:List V} {off:Nat} {q:Mp} (h:I9 τ te zc off=some q):zc[q.off]? = some (.val (.map none))∧q.off ≠ off∧q.live=λ_=>false:=by
 unfold I9 at h;split at h
 ·exact KN h
 ·cases h
include hτ in
theorem Ag7 (hg:Good κ S st.h w) (ht:VRs S w st.t κ a.tmps.toList) {t:TypeId} {x y:V} {cx cy:Value} (hx:VR S w x κ cx) (hy:VR S w y κ cy)
  (hrun:(execOp a.eval o).run P w=((Instr.makeSlice t cx cy).run P w).andThen λv w'=>.ok (.value v) w')
  (h:(Adq τ st t x y).sem=some r) (hp:F4 a o κ S st w K r):o.wp P a w K Q:=by
 unfold Adq at h;split at h
 ·rename_i l c ts hts
  rw [Bl hx,Bl hy] at hrun;obtain ⟨_,d,_,hd,hk,_⟩:=hτ.info hts;split at h
  ·rename_i e hkk
   rw [hkk] at hk;have:=Ee hk.symm;subst this;split at h
   ·rename_i te hte
    obtain ⟨i,_,hi,_,_,hs,hby,hz,_⟩:=hτ.info hte;split at h
    ·rename_i zc hzc
     split at h
     ·rename_i h1 h2
      have h1:zc.length=te.size:=Nat.eq_of_beq_eq_true h1;have h2:0<te.size:=by simpa using h2
      have all:F2 te.bytes l c=true->∃ (z:Value),(∀ (S':Nat->Prop) (w':World),VR S' w' te.zero noK z)∧z.cells.size=te.size∧(∀ u ∈ z.cells.toList,u.oneCell'=true)∧VRs S w zc noK z.cells.toList ∧
        (execOp a.eval o).run P w = .ok (.value (.slice (some ⟨w.heap.size,0,none⟩) (toN l) c.toNat)) (w.alloc (.cells (madeCells z.cells (c.toNat * te.size)) e)) ∧
        (w.alloc (.cells (madeCells z.cells (c.toNat * te.size)) e)).ownsRow 0 e te.size (.slice (some ⟨w.heap.size,0,none⟩) (toN l) c.toNat) (toN l) ((madeCells z.cells (c.toNat * te.size)).toList.take (toN l * te.size)) ∧
        (∀ k,k<toN l->∀ j,j<te.size->((madeCells z.cells (c.toNat * te.size)).toList.take (toN l * te.size))[k * te.size+j]? = z.cells[j]?):=λhm=>by
       simp only [F2,Bool.and_eq_true,decide_eq_true_eq] at hm;obtain ⟨m1,m2,m3,m4⟩:=hm;obtain ⟨z,hzi,hzz⟩:∃ z,i.zero=some z∧te.zero=ofValue z:=by
        cases hzz:i.zero with
        | none=>rw [hzz] at hz; rw [hz] at hzc; simp [V.cells] at hzc
        | some z=>rw [hzz] at hz; exact ⟨z,rfl,hz⟩
       have hvz:∀ (S':Nat->Prop) (w':World),VR S' w' te.zero noK z:=λS' w'=>by rw [hzz]; exact C4 z
       have hcz:=Cp hzc (hvz S w);have hsz:z.cells.size=te.size:=by rw [<- h1,<- hcz.1.length]; simp
       have hmk:=run_make (P:=P) w t e i z hd hi hzi .i64 .i64 l c m1 m2 (by rw [<- hby]; exact m3) m4;rw [<- hs] at hmk;have hlc:l.toNat <= c.toNat:=Int.toNat_le_toNat m2;refine ⟨z,hvz,hsz,hcz.2,hcz.1,by rw [hrun,hmk]; rfl,⟨?_,.inr ⟨w.heap.size,c.toNat,_,rfl,Nat.zero_le _,heap_alloc_new w _,hlc,?_,size_madeCells _ _,rfl⟩⟩,λk hkn j hj=>?_⟩
       ·have:toN l * te.size <= c.toNat * te.size:=Nat.mul_le_mul_right _ hlc
        rw [List.length_take,Array.length_toList,size_madeCells,Nat.min_eq_left this]
       ·unfold maxLen; omega
       ·rw [List.getElem?_take,if_pos (Dw hkn hj)]
        have hkn:k<l.toNat:=hkn;exact RD z.cells c.toNat te.size k j hsz (by omega) hj
      split at h
      ·rename_i off e' s' hsl
       split at h
       ·rename_i hzoff
        obtain ⟨hm,h3⟩:=Ab h;obtain ⟨z,hvz,hsz,hz1,hzr,hrun',hown,hcell⟩:=all hm;have hoff:off<te.size:=by rw [<- h1]; exact (List.getElem?_eq_some_iff.1 hzoff).1
        obtain ⟨u,hu1,hu2⟩:=hzr.get hzoff;have hu2:u = .slice none 0 0:=hu2;subst hu2
        let jj:Jag:=⟨e,te.size,toN l,λ_=>te.zero,off,e',s',λ_=>true,λ_=>0,λ_ _=>.und,I9 τ te zc off⟩
        let ms:Array Value:=Array.replicate (toN l) (.slice none 0 0)++Array.replicate (mpN jj) (.map none)
        have hmp:∀ u,jj.mp=some u->z.cells.toList[u.off]? = some (.map none)∧u.off<te.size∧u.off ≠ off∧u.live=λ_=>false:=λu hu=>by
         obtain ⟨q1,q2,q3⟩:=TQ hu;obtain ⟨v,hv1,hv2⟩:=hzr.get q1;have hv2:v = .map none:=hv2;subst hv2;exact ⟨hv1,by rw [<- h1]; exact (List.getElem?_eq_some_iff.1 q1).1,q2,q3⟩
        have hrep:∀ (q:Nat) (m:Value),ms[q]? = some m->(q<toN l∧m=Value.slice none 0 0) ∨ ∃ k,q=toN l+k∧k<mpN jj∧m = .map none:=λq m hq=>by
         rw [Array.getElem?_append] at hq;split at hq
         ·rename_i hlt
          rw [Array.size_replicate] at hlt;rw [Array.getElem?_replicate,if_pos hlt] at hq;exact .inl ⟨hlt,(Option.some.inj hq).symm⟩
         ·rename_i hge
          rw [Array.size_replicate] at hq hge;rw [Array.getElem?_replicate] at hq;split at hq
          ·exact .inr ⟨q-toN l,by omega,by assumption,(Option.some.inj hq).symm⟩
          ·cases hq
        have hbl:∀ (q:Nat) (m:Value) (g:Nat),ms[q]? = some m->Ak (some m) ≠ some g:=λq m g hq=>by
         rcases hrep q m hq with ⟨_,rfl⟩ | ⟨_,_,_,rfl⟩ <;> simp [Ak]
        refine YQ (v:=V.jref) (k:=.tuple #[.slice (some ⟨w.heap.size,0,none⟩) (toN l) c.toNat,.agg ms]) hg ht hrun' (B7 w _) (by simp) rfl rfl rfl ?_ ?_ ⟨ms,by simp [AZ],_,_,_,rfl⟩ h3 hp (Bj _)
        ·refine ⟨_,_,_,rfl,h2,WZ hsl,⟨hoff,λu hu=>⟨(hmp u hu).2.1,(hmp u hu).2.2.1⟩⟩,by simp [ms,jj],hown,λu hu=>?_,λk hkn=>?_,λq m hq=>?_,λq m g hq hgm=>absurd hgm (hbl q m g hq)⟩
         ·exact CS.one (S:=S) (w:=w) (g:=λ_=>te.zero) (n:=toN l) (s:=te.size) (λk hk=>⟨z,hvz _ _,hsz,hz1,λj hj=>hcell k hk j hj⟩) hown.1 h2 u hu
         ·exact ⟨z,hvz _ _,hsz,hz1,λj hj _ _=>hcell k hkn j hj⟩
         ·rcases hrep q m hq with ⟨hqn,rfl⟩ | ⟨k,rfl,hk,rfl⟩
          ·refine .inl ⟨hqn,?_,[],World.ownsRow_nil _ 0 _ _,λi hi=>absurd hi (Nat.not_lt_zero _)⟩
           rw [hcell q hqn off hoff];simpa using hu1
          ·cases hmm:I9 τ te zc off with
           | none =>
            exfalso
            have:mpN jj=0:=by unfold mpN; show (match I9 τ te zc off with | none=>_ | some _=>_)=0; rw [hmm]
            omega
           | some u =>
            have hkn:k<toN l:=by
             have:mpN jj=toN l:=by unfold mpN; show (match I9 τ te zc off with | none=>_ | some _=>_)=_; rw [hmm]
             omega
            obtain ⟨q1,q2,q3,q4⟩:=hmp u hmm;refine .inr ⟨u,k,rfl,rfl,?_,?_⟩
            ·rw [hcell k hkn u.off q2]
             simpa using q1
            ·rw [q4]
        ·rintro g ⟨c2,ms2,e2,hgm⟩
         obtain ⟨rfl,rfl⟩:=AC e2;rcases hgm with hgm | ⟨q,m,hq,hgm⟩
         ·simp [Ak] at hgm
          omega
         ·exact absurd hgm (hbl q m g hq)
       ·cases h
      ·obtain ⟨hm,h3⟩:=Ab h
       obtain ⟨z,hvz,hsz,hz1,hzr,hrun',hown,hcell⟩:=all hm;refine Ni (v:=V.ref) hg ht hrun' (B7 w _) (by simp) rfl rfl rfl ?_ (.inr rfl) ⟨by simp [AZ],.inl ⟨_,_,_,rfl⟩⟩ h3 hp;exact ⟨h2,_,_,rfl,hown,λk hkn=>⟨z,hvz _ _,hsz,hz1,λj hj=>hcell k hkn j hj⟩⟩
     ·cases h
    ·cases h
   ·cases h
  ·cases h
 ·cases h
end
end Go.Sy
