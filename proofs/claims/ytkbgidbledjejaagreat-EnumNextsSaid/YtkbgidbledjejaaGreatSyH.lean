/-
  The evaluator's stores, makes and appends are the model's. No conditions.
-/
import Derived.Test.YtkbgidbledjejaaGreatSyG
namespace Go.Sy
section
variable {S:Nat->Prop} {w:World}
mutual
theorem FS {κ κ':Ai}:∀ (v:V) (c:Value),free v=true->VR S w v κ c->VR S w v κ' c
 | .val _,_,_,h=>h
 | .str _,_,_,h=>h
 | .agg cs,_,hf,h=>by
  obtain ⟨ca,e,h⟩:=h;exact ⟨ca,e,Es cs _ hf h⟩
 | .tup cs,_,hf,h=>by
  obtain ⟨ca,e,h⟩:=h;exact ⟨ca,e,Es cs _ hf h⟩
 | .fn f cs,_,hf,h=>by
  obtain ⟨ca,e,h⟩:=h;exact ⟨ca,e,Es cs _ hf h⟩
 | .nilS,_,_,h=>h
 | .sl _ _ _,_,_,h=>h
 | .slr _ _ _ _,_,_,h=>h
 | .pp _,_,_,h=>h
 | .ptr _ _,_,hf,_=>by cases hf
 | .ref _,_,hf,_=>by cases hf
 | .ept _ _ _ _,_,hf,_=>by cases hf
 | .rct _ _,_,hf,_=>by cases hf
 | .jref _,_,hf,_=>by cases hf
 | .jept _ _ _ _,_,hf,_=>by cases hf
 | .mref _ _,_,hf,_=>by cases hf
 | .anym,_,_,h=>h
 | .mept _ _ _ _ _,_,hf,_=>by cases hf
 | .und,_,_,_=>trivial
theorem Es {κ κ':Ai}:∀ (vs:List V) (l:List Value),free.frees vs=true->VRs S w vs κ l->VRs S w vs κ' l
 | [],_,_,h=>h
 | v::vs,_,hf,h=>by
  obtain ⟨a,l',e,h1,h2⟩:=h;simp only [free.frees] at hf;split at hf
  ·rename_i hv
   exact ⟨a,l',e,FS v _ hv h1,Es vs _ hf h2⟩
  ·cases hf
end
end
theorem CG (X:Array Value):(Value.agg X).cells=X:=rfl
theorem Dw {i j s n:Nat} (hi:i<n) (hj:j<s):i * s+j<n * s:=by
 have:(i+1) * s <= n * s:=Nat.mul_le_mul_right _ hi;rw [Nat.add_mul] at this;omega
section
theorem Ge.holds' {S:Nat->Prop} {w:World} {κ:Ai} {mk:(Nat->V)->Blk} {e s n:Nat} {g:Nat->V} {v:Option Value} (hb:∀ g',Ge (mk g') e s n g')
  (h:0<s∧∃ c xs,v=some c∧w.ownsRow 0 e s c n xs∧CS S w s n g xs):A7 S w κ v (mk g):=by
 rcases hb g with hb | ⟨lk,hb⟩ <;> (rw [hb]; exact h)
variable {P:Program} {τ:List Ty} (hτ:TabOK P τ) {Γ:Cx0} {S:Nat->Prop} {w:World} {κ:Ai} {st:St} {a:Act} {o:Oper}
 {K:Act->World->Prop} {Q:Exit->Act->World->Prop} {r:V×St}
theorem BE (l m:List Value) (off j:Nat) (h:off+m.length <= l.length) :
  (l.take off++m++l.drop (off+m.length))[j]? = if off <= j∧j<off+m.length then m[j-off]? else l[j]?:=by
 have hto:(l.take off).length=off:=by simp; omega
 by_cases h1:j<off
 ·rw [if_neg (by omega),List.append_assoc,List.getElem?_append_left (by omega),List.getElem?_take,if_pos h1]
 ·rw [List.append_assoc,List.getElem?_append_right (by omega),hto]
  by_cases h2:j<off+m.length
  ·rw [if_pos (by omega),List.getElem?_append_left (by omega)]
  ·rw [if_neg (by omega),List.getElem?_append_right (by omega),List.getElem?_drop]
   congr 1;omega
theorem NP (hg:Good κ S st.h w) (ht:VRs S w st.t κ a.tmps.toList) {cx cy:Value} {id s' i off:Nat} {cs:List V} (hx:VR S w (.ept id s' i off) κ cx) (hr:VRs S w cs κ cy.cells.toList) (h1:∀ u ∈ cy.cells.toList,u.oneCell'=true)
  (hl:cy.cells.toList.length=cs.length)
  (hok:∀ (g off:Nat) (cur:Array Value) (e:TypeId),cx = .pointer (some ⟨g,off,none⟩)->w.heap[g]? = some (.cells cur e (0,0))->off+cs.length <= cur.size ->
     (execOp a.eval o).run P w = .ok .skip (w.setRow g (cur.toList.take off++cy.cells.toList++cur.toList.drop (off+cy.cells.toList.length)).toArray))
  {e s n:Nat} {g:Nat->V} {v:V} {mk:(Nat->V)->Blk} (hmk:mk=Blk.row e s n ∨ mk=Blk.xrow false e s n) (hh:st.h[id]? = some (mk g))
  (hpc:EC (g i) off cs=some v) (hfr:free.frees cs=true) (hss:s.beq s'=true)
  (h:(T.br (nlt i n) (.leaf (A5,⟨st.t,st.h.set id (mk (BF g i v))⟩)) .fail).sem=some r) (hp:F4 a o κ S st w K r):o.wp P a w K Q:=by
 have hrow':∀ g',Ge (mk g') e s n g':=λg'=>by
  rcases hmk with rfl | rfl
  ·exact .inl rfl
  ·exact .inr ⟨_,rfl⟩
 have hrow:=hrow' g;have hss:s=s':=Nat.eq_of_beq_eq_true hss;subst hss;obtain ⟨hin,h2⟩:=Ab h;have hin:i<n:=by simpa [nlt] using hin
 have:=Aa h2;subst this;obtain ⟨hs0,c0,xs,hk,ho,he⟩:=ZK hg hh hrow;obtain ⟨gb,cap,cur,rfl,hgw,hnc,hcm,hcsz,htake⟩:=D1 ho (by omega);obtain ⟨gb',n',cap',hk',hcx⟩:=hx;rw [hk] at hk';simp at hk';obtain ⟨rfl,_⟩:=hk';obtain ⟨ci,hv1,hv2,hv3,hv4⟩:=he i hin;obtain ⟨ci',hw1,hw2,hw3,hw4,hoff⟩:∃ ci',VR S w v noK ci'∧ci'.cells.size=s∧(∀ u ∈ ci'.cells.toList,u.oneCell'=true) ∧
   (∀ j,j<s->ci'.cells[j]? = if off <= j∧j<off+cs.length then cy.cells[j-off]? else ci.cells[j]?)∧off+cs.length <= s:=by
  have hr':VRs S w cs noK cy.cells.toList:=Es _ _ hfr hr;unfold EC at hpc;split at hpc
  ·rename_i l hgi
   split at hpc
   ·rename_i hle
    have hle:off+cs.length <= l.length:=by simpa using hle
    simp at hpc;subst hpc;rw [hgi] at hv1;obtain ⟨ca,rfl,hca⟩:=hv1;have hlca:=VRs.length hca;have hls:ca.length=s:=by simpa [CG] using hv2
    refine ⟨.agg (ca.take off++cy.cells.toList++ca.drop (off+cy.cells.toList.length)).toArray,⟨_,rfl,Hg hca hr' off⟩,?_,?_,?_,by omega⟩
    ·simp only [CG,List.size_toArray,List.length_append,List.length_take,List.length_drop]
     omega
    ·intro u hu
     simp only [CG,List.mem_append] at hu;rcases hu with (hu | hu) | hu
     ·exact hv3 u (by simpa [CG] using List.mem_of_mem_take hu)
     ·exact h1 u hu
     ·exact hv3 u (by simpa [CG] using List.mem_of_mem_drop hu)
    ·intro j hj
     simp only [CG,List.getElem?_toArray];rw [BE _ _ _ _ (by omega),hl,Array.getElem?_toList]
   ·cases hpc
  ·split at hpc
   ·have hsd:Jn (g i)=true:=by assumption
    simp at hpc;subst hpc;obtain ⟨c,l',e1,e2,e3⟩:=hr';have e3:l'=[]:=e3;subst e3;have hsol:ci.cells=#[ci]:=(EI hsd hv1).1;have hs1:s=1:=by rw [hsol] at hv2; simpa using hv2.symm
    have hc1:c.oneCell'=true:=h1 c (by rw [e1]; simp);have hcc:=H6 hc1;refine ⟨c,e2,by rw [hcc,hs1]; rfl,by rw [hcc]; simpa using hc1,?_,by simp [hs1]⟩;intro j hj;have hj0:j=0:=by omega
    subst hj0;have e1':cy.cells=#[c]:=by rw [<- Array.toArray_toList (xs:=cy.cells),e1]
    rw [hcc,e1'];simp
   ·cases hpc
 have hlecur:i * s+off+cs.length <= cur.size:=by
  have h3:(i+1) * s <= n * s:=Nat.mul_le_mul_right _ hin;have h4:n * s <= cap * s:=Nat.mul_le_mul_right _ hnc;rw [Nat.add_mul] at h3;omega
 have hrun':=hok gb (i * s+off) cur e hcx hgw hlecur;have hidb:Ak (κ id)=some gb:=by rw [hk]; rfl
 have hwk:∀ k,k ≠ gb->(w.setRow gb (cur.toList.take (i * s+off)++cy.cells.toList++cur.toList.drop (i * s+off+cy.cells.toList.length)).toArray).heap[k]? = w.heap[k]? :=
  λk hk=>setRow_other w gb k _ hk
 have hgown:A3 κ st.h id gb:=(hrow.plain.own hh).2 hidb;have hS:∀ b,S b->S b∧(w.setRow gb (cur.toList.take (i * s+off)++cy.cells.toList++cur.toList.drop (i * s+off+cy.cells.toList.length)).toArray).heap[b]? = w.heap[b]? :=
  λb hb=>⟨hb,hwk b λeb=>(hg.out b hb).2 id (by rw [eb]; exact hgown)⟩
 have hnewlen:(cur.toList.take (i * s+off)++cy.cells.toList++cur.toList.drop (i * s+off+cy.cells.toList.length)).length=cur.size:=by
  simp only [List.length_append,List.length_take,List.length_drop,Array.length_toList];simp at hl;omega
 have hup:=Good.upd (w':=w.setRow gb (cur.toList.take (i * s+off)++cy.cells.toList++cur.toList.drop (i * s+off+cy.cells.toList.length)).toArray)
  (b':=mk (BF g i v)) hg hh hrow.plain (hrow' _).plain hidb hwk (size_setRow _ _ _)
  (Ge.holds' hrow' ⟨hs0,_,(cur.toList.take (i * s+off)++cy.cells.toList++cur.toList.drop (i * s+off+cy.cells.toList.length)).take (n * s),hk,
   ⟨by
    have:n * s <= cap * s:=Nat.mul_le_mul_right _ hnc;rw [List.length_take,hnewlen];omega,
    .inr ⟨gb,cap,_,rfl,Nat.zero_le _,setRow_heap w gb cur _ e _ hgw,hnc,hcm,by rw [List.size_toArray,hnewlen,hcsz],by simp⟩⟩,
   λk hkn=>by
    by_cases eki:k=i
    ·subst eki
     refine ⟨ci',?_,hw2,hw3,?_⟩
     ·have:BF g k v k=v:=by simp [D7]
      rw [this];exact VR.mono hS _ _ _ _ (λ_ _ h=>h) hw1
     ·intro j hj
      rw [List.getElem?_take,if_pos (Dw hkn hj),BE _ _ _ _ (by simp at hl; simp; omega),hw4 j hj,hl];by_cases hc:off <= j∧j<off+cs.length
      ·rw [if_pos (by omega),if_pos hc]
       simp;congr 1;omega
      ·rw [if_neg (by omega),if_neg hc]
       have:=hv4 j hj;rw [<- htake,List.getElem?_take,if_pos (Dw hkn hj)] at this;exact this
    ·obtain ⟨ck,q1,q2,q3,q4⟩:=he k hkn
     refine ⟨ck,?_,q2,q3,?_⟩
     ·have:BF g i v k=g k:=by
       have:Nat.beq k i=false:=by
        cases hb:Nat.beq k i
        ·rfl
        ·exact absurd (Nat.eq_of_beq_eq_true hb) eki
       simp [D7,this]
      rw [this];exact VR.mono hS _ _ _ _ (λ_ _ h=>h) q1
     ·intro j hj
      rw [List.getElem?_take,if_pos (Dw hkn hj),BE _ _ _ _ (by simp at hl; simp; omega),hl];have hne:¬ (i * s+off <= k * s+j∧k * s+j<i * s+off+cs.length):=by
       rcases Nat.lt_or_gt_of_ne eki with hlt | hgt
       ·have:=Dw hlt hj
        omega
       ·have h5:(i+1) * s <= k * s:=Nat.mul_le_mul_right _ hgt
        rw [Nat.add_mul] at h5;omega
      rw [if_neg hne];have:=q4 j hj;rw [<- htake,List.getElem?_take,if_pos (Dw hkn hj)] at this;exact this⟩)
 unfold Oper.wp;rw [hrun'];refine hp κ S undef _ hup.1 (VR.mono_go hS _ _ _ _ (λ_ _ h=>h) ht) rfl (Ext.upd hg hh hrow.plain (hrow' _).plain hidb hwk (size_setRow _ _ _) rfl rfl rfl hup.2
  (λe1 s1 n1 g1=>by rcases hmk with rfl | rfl <;> simp) (λ_ _ _ _ h=>by rcases hmk with rfl | rfl <;> cases h; exact ⟨_,rfl⟩))
theorem JW {e s n:Nat} {c:Value} {xs:List Value} (ho:w.ownsRow 0 e s c n xs) {i off:Nat} (hin:i<n) (news:List Value) (hle:off+news.length <= s) :
  ∃ (g:Nat) (cap:Nat) (cur:Array Value),c = .slice (some ⟨g,0,none⟩) n cap∧w.heap[g]? = some (.cells cur e (0,0))∧i * s+off+news.length <= cur.size ∧
   (w.setRow g (cur.toList.take (i * s+off)++news++cur.toList.drop (i * s+off+news.length)).toArray).ownsRow 0 e s c n (xs.take (i * s+off)++news++xs.drop (i * s+off+news.length)):=by
 obtain ⟨g,cap,cur,rfl,hgw,hnc,hcm,hcsz,htake⟩:=D1 ho (by omega);have h3:(i+1) * s <= n * s:=Nat.mul_le_mul_right _ hin;have h4:n * s <= cap * s:=Nat.mul_le_mul_right _ hnc;rw [Nat.add_mul] at h3;have hl:=ho.1;have hcl:cur.toList.length=cur.size:=Array.length_toList;have hnew:(cur.toList.take (i * s+off)++news++cur.toList.drop (i * s+off+news.length)).length=cur.size:=by
  simp only [List.length_append,List.length_take,List.length_drop,Array.length_toList];omega
 refine ⟨g,cap,cur,rfl,hgw,by omega,⟨?_,.inr ⟨g,cap,_,rfl,Nat.zero_le _,setRow_heap w g cur _ e _ hgw,hnc,hcm,by rw [List.size_toArray,hnew,hcsz],?_⟩⟩⟩
 ·simp only [List.length_append,List.length_take,List.length_drop]
  omega
 ·apply List.ext_getElem?
  intro q;rw [List.toList_toArray,List.getElem?_take,BE _ _ _ _ (by omega),BE _ _ _ _ (by omega)];split
  ·split
   ·rfl
   ·rename_i hq _
    rw [<- htake,List.getElem?_take,if_pos hq]
  ·rename_i hq
   rw [if_neg (by omega),List.getElem?_eq_none (by omega)]
theorem BI {s n i off k q:Nat} {xs news:List Value} (hl:xs.length=n * s) (hin:i<n) (hle:off+news.length <= s) (hq:q<s) :
  (xs.take (i * s+off)++news++xs.drop (i * s+off+news.length))[k * s+q]? = if k=i∧off <= q∧q<off+news.length then news[q-off]? else xs[k * s+q]?:=by
 have h3:(i+1) * s <= n * s:=Nat.mul_le_mul_right _ hin;rw [Nat.add_mul] at h3;rw [BE _ _ _ _ (by omega)];by_cases hk:k=i
 ·subst hk
  by_cases hc:off <= q∧q<off+news.length
  ·rw [if_pos (by omega),if_pos ⟨rfl,hc⟩]
   congr 1;omega
  ·rw [if_neg (by omega),if_neg (λh=>hc h.2)]
 ·rw [if_neg ?_,if_neg (λh=>hk h.1)]
  intro h;rcases Nat.lt_or_gt_of_ne hk with hlt | hgt
  ·have:=Dw hlt hq
   omega
  ·have h5:(i+1) * s <= k * s:=Nat.mul_le_mul_right _ hgt
   rw [Nat.add_mul] at h5;omega
theorem NV {S:Nat->Prop} {w:World} {κ:Ai} {old v:V} {off s:Nat} {cs:List V} {ci cy:Value} (hpc:EC old off cs=some v) (hfr:free.frees cs=true) (hr:VRs S w cs κ cy.cells.toList)
  (h1:∀ u ∈ cy.cells.toList,u.oneCell'=true) (hv1:VR S w old noK ci) (hv2:ci.cells.size=s) (hv3:∀ u ∈ ci.cells.toList,u.oneCell'=true) :
  ∃ ci',VR S w v noK ci'∧ci'.cells.size=s∧(∀ u ∈ ci'.cells.toList,u.oneCell'=true) ∧
   (∀ j,j<s->ci'.cells[j]? = if off <= j∧j<off+cs.length then cy.cells[j-off]? else ci.cells[j]?)∧off+cs.length <= s:=by
 have hl:=hr.length;have hr':VRs S w cs noK cy.cells.toList:=Es _ _ hfr hr;unfold EC at hpc;split at hpc
 ·rename_i l
  split at hpc
  ·rename_i hle
   have hle:off+cs.length <= l.length:=by simpa using hle
   simp at hpc;subst hpc;obtain ⟨ca,rfl,hca⟩:=hv1;have hlca:=VRs.length hca;have hls:ca.length=s:=by simpa [CG] using hv2
   refine ⟨.agg (ca.take off++cy.cells.toList++ca.drop (off+cy.cells.toList.length)).toArray,⟨_,rfl,Hg hca hr' off⟩,?_,?_,?_,by omega⟩
   ·simp only [CG,List.size_toArray,List.length_append,List.length_take,List.length_drop]
    omega
   ·intro u hu
    simp only [CG,List.mem_append] at hu;rcases hu with (hu | hu) | hu
    ·exact hv3 u (by simpa [CG] using List.mem_of_mem_take hu)
    ·exact h1 u hu
    ·exact hv3 u (by simpa [CG] using List.mem_of_mem_drop hu)
   ·intro j hj
    simp only [CG,List.getElem?_toArray];rw [BE _ _ _ _ (by omega),hl,Array.getElem?_toList]
  ·cases hpc
 ·split at hpc
  ·have hsd:Jn old=true:=by assumption
   simp at hpc;subst hpc;obtain ⟨c,l',e1,e2,e3⟩:=hr';have e3:l'=[]:=e3;subst e3;have hsol:ci.cells=#[ci]:=(EI hsd hv1).1;have hs1:s=1:=by rw [hsol] at hv2; simpa using hv2.symm
   have hc1:c.oneCell'=true:=h1 c (by rw [e1]; simp);have hcc:=H6 hc1;refine ⟨c,e2,by rw [hcc,hs1]; rfl,by rw [hcc]; simpa using hc1,?_,by simp [hs1]⟩;intro j hj;have hj0:j=0:=by omega
   subst hj0;have e1':cy.cells=#[c]:=by rw [<- Array.toArray_toList (xs:=cy.cells),e1]
   rw [hcc,e1'];simp
  ·cases hpc
theorem Aae (hg:Good κ S st.h w) (ht:VRs S w st.t κ a.tmps.toList) {cx cy:Value} {id s' i off:Nat} {cs:List V} (hx:VR S w (.jept id s' i off) κ cx) (hr:VRs S w cs κ cy.cells.toList) (h1:∀ u ∈ cy.cells.toList,u.oneCell'=true)
  (hl:cy.cells.toList.length=cs.length)
  (hok:∀ (g off:Nat) (cur:Array Value) (e:TypeId),cx = .pointer (some ⟨g,off,none⟩)->w.heap[g]? = some (.cells cur e (0,0))->off+cs.length <= cur.size ->
     (execOp a.eval o).run P w = .ok .skip (w.setRow g (cur.toList.take off++cy.cells.toList++cur.toList.drop (off+cy.cells.toList.length)).toArray))
  {j:Jag} {v:V} (hh:st.h[id]? = some (.jag j)) (hss:s'.beq j.size=true)
  (hpc:EC (j.get i) off cs=some v) (hfr:free.frees cs=true) (hoff:Av (bor (Nat.ble (Nat.add off cs.length) j.off) (Nat.blt j.off off)) (Ade j.mp off cs.length)=true)
  (h:(T.br (nlt i j.n) (.leaf (A5,(⟨st.t,st.h.set id (.jag { j with get:=BF j.get i v })⟩:St))) .fail).sem=some r) (hp:F4 a o κ S st w K r):o.wp P a w K Q:=by
 have hss:s'=j.size:=Nat.eq_of_beq_eq_true hss;subst hss;obtain ⟨hin,h2⟩:=Ab h;have hin:i<j.n:=by simpa [nlt] using hin
 have:=Aa h2;subst this;have hoff2:∀ q,j.mp=some q->off+cs.length <= q.off ∨ q.off<off:=λq hq=>by
  rw [hq] at hoff;exact (by simpa [bor,Av,Ade] using hoff:_∧_).2
 have hoff:off+cs.length <= j.off ∨ j.off<off:=(by simpa [bor,Av] using hoff:_∧_).1;obtain ⟨c,ms,xs,hk,hj⟩:=Cd hg hh;obtain ⟨g1,g2,g3,g4,g5,g6,g7,g8,g9⟩:=hj;obtain ⟨ci,q1,q2,q3,q4⟩:=g7 i hin;obtain ⟨ci',p1,p2,p3,p4,p5⟩:=NV hpc hfr hr h1 q1 q2 q3;have hle:off+cy.cells.toList.length <= j.size:=by omega
 obtain ⟨gb,cap,cur,rfl,hgw,hcur,hown'⟩:=JW g5 hin cy.cells.toList hle;obtain ⟨gb',n',cap',ms',hk',hcx⟩:=hx;rw [hk] at hk';obtain ⟨e1,rfl⟩:=AC hk';simp at e1;obtain ⟨rfl,_⟩:=e1;have hrun':=hok gb (i * j.size+off) cur j.e hcx hgw (by rw [<- hl]; exact hcur);have hwk:∀ k,k ≠ gb->(w.setRow gb (cur.toList.take (i * j.size+off)++cy.cells.toList++cur.toList.drop (i * j.size+off+cy.cells.toList.length)).toArray).heap[k]? = w.heap[k]? :=
  λk hk=>setRow_other w gb k _ hk
 have htop:inBlk (κ id) gb (.jag j):=by rw [hk]; exact DD rfl
 have hgown:A3 κ st.h id gb:=(Aq hh).2 htop;have hS:∀ b,S b->S b∧(w.setRow gb (cur.toList.take (i * j.size+off)++cy.cells.toList++cur.toList.drop (i * j.size+off+cy.cells.toList.length)).toArray).heap[b]? = w.heap[b]? :=
  λb hb=>⟨hb,hwk b λeb=>(hg.out b hb).2 id (by rw [eb]; exact hgown)⟩
 have hup:=Good.upd' (w':=w.setRow gb (cur.toList.take (i * j.size+off)++cy.cells.toList++cur.toList.drop (i * j.size+off+cy.cells.toList.length)).toArray)
  (b':=.jag { j with get:=BF j.get i v }) hg hh (λk hk=>hk) (λk hk _=>hwk k λe=>hk (by rw [e]; exact htop)) (Nat.le_of_eq (size_setRow _ _ _).symm)
  ⟨_,ms,_,hk,g1,g2,g3,g4,hown',λu hu=>?_,λk hkn=>?_,λk m hm=>?_,g9⟩
 ·unfold Oper.wp
  rw [hrun'];exact hp κ S undef _ hup.1 (VR.mono_go hS _ _ _ _ (λ_ _ h=>h) ht) rfl (Ext.upd' hg hh rfl (λk hk _=>hwk k λe=>hk (by rw [e]; exact htop)) (Nat.le_of_eq (size_setRow _ _ _).symm) rfl rfl rfl hup.2 (λ_ _ _ _ h=>by cases h)
   (λhf=>absurd hf (Bj _)))
 ·simp only [List.mem_append] at hu
  rcases hu with (hu | hu) | hu
  ·exact g6 u (List.mem_of_mem_take hu)
  ·exact h1 u hu
  ·exact g6 u (List.mem_of_mem_drop hu)
 ·by_cases eki:k=i
  ·subst eki
   refine ⟨ci',?_,p2,p3,λq hq hqo hqm=>?_⟩
   ·have:BF j.get k v k=v:=by simp [D7]
    show VR S _ (BF j.get k v k) noK ci';rw [this];exact VR.mono hS _ _ _ _ (λ_ _ h=>h) p1
   ·rw [BI g5.1 hin hle hq,p4 q hq,hl]
    by_cases hc:off <= q∧q<off+cs.length
    ·rw [if_pos ⟨rfl,hc⟩,if_pos hc,Array.getElem?_toList]
    ·rw [if_neg (λh=>hc h.2),if_neg hc]
     exact q4 q hq hqo hqm
  ·obtain ⟨ck,z1,z2,z3,z4⟩:=g7 k hkn
   refine ⟨ck,?_,z2,z3,λq hq hqo hqm=>?_⟩
   ·have:BF j.get i v k=j.get k:=by
     have:Nat.beq k i=false:=by
      cases hb:Nat.beq k i
      ·rfl
      ·exact absurd (Nat.eq_of_beq_eq_true hb) eki
     simp [D7,this]
    show VR S _ (BF j.get i v k) noK ck;rw [this];exact VR.mono hS _ _ _ _ (λ_ _ h=>h) z1
   ·rw [BI g5.1 hin hle hq,if_neg (λh=>eki h.1)]
    exact z4 q hq hqo hqm
 ·have hfar:∀ g,Ak (some m)=some g->g ≠ gb:=λg hg2 e=>(g9 k m g hm hg2).1 (by rw [e]; rfl)
  have hb:=λg hg2=>hwk g (hfar g hg2);rcases g8 k m hm with ⟨hkn,h8⟩ | ⟨q,k,h81,rfl,h8⟩
  ·exact .inl ⟨hkn,h8.re hS hb rfl rfl rfl rfl rfl rfl rfl (by rw [BI g5.1 hin hle g3.1,if_neg (by rw [hl]; omega)])⟩
  ·have:=hoff2 q h81
   exact .inr ⟨q,k,h81,rfl,h8.re hb rfl rfl rfl rfl rfl rfl rfl (by rw [BI g5.1 hin hle (g3.2 q h81).1,if_neg (by rw [hl]; omega)])⟩
theorem Kd (i:Nat):Fz i i=true:=Nat.beq_refl i
theorem LN {i k:Nat} (h:i ≠ k):Fz i k=false:=by
 unfold Fz;cases hb:Nat.beq i k
 ·rfl
 ·exact absurd (Nat.eq_of_beq_eq_true hb) h
theorem JP (f:Nat->Bool) (k:Nat) (b:Bool):Da f k b k=b:=by simp [Da,sel,Kd]
theorem O7 {f:Nat->Bool} {k i:Nat} {b:Bool} (h:i ≠ k):Da f k b i=f i:=by simp [Da,sel,LN h]
theorem G6 (f:Nat->Nat) (k n:Nat):Dq f k n k=n:=by simp [Dq,sel,Kd]
theorem O5 {f:Nat->Nat} {k i n:Nat} (h:i ≠ k):Dq f k n i=f i:=by simp [Dq,sel,LN h]
theorem G7 (f:Nat->Nat->V) (k:Nat) (g:Nat->V):Dz f k g k=g:=by
 funext q;simp [Dz,Et,Kd]
theorem JM {f:Nat->Nat->V} {k i:Nat} {g:Nat->V} (h:i ≠ k):Dz f k g i=f i:=by
 funext q;simp [Dz,Et,LN h]
theorem Aad (hg:Good κ S st.h w) (ht:VRs S w st.t κ a.tmps.toList) {cx cy:Value} {id u s' i off:Nat} {cs:List V} (hx:VR S w (.mept id u s' i off) κ cx) (hr:VRs S w cs κ cy.cells.toList) (h1:∀ u ∈ cy.cells.toList,u.oneCell'=true)
  (hl:cy.cells.toList.length=cs.length)
  (hok:∀ (g off:Nat) (cur:Array Value) (e:TypeId),cx = .pointer (some ⟨g,off,none⟩)->w.heap[g]? = some (.cells cur e (0,0))->off+cs.length <= cur.size ->
     (execOp a.eval o).run P w = .ok .skip (w.setRow g (cur.toList.take off++cy.cells.toList++cur.toList.drop (off+cy.cells.toList.length)).toArray))
  {j:Jag} {v:V} (hh:st.h[id]? = some (.jag j)) (hss:s'.beq j.s'=true)
  (hpc:EC (j.mem u i) off cs=some v) (hfr:free.frees cs=true)
  (h:(T.br (j.live u) (.br (nlt i (j.len u)) (.leaf (A5,(⟨st.t,st.h.set id (.jag { j with mem:=Dz j.mem u (BF (j.mem u) i v) })⟩:St))) .fail) .fail).sem=some r) (hp:F4 a o κ S st w K r):o.wp P a w K Q:=by
 have hss:s'=j.s':=Nat.eq_of_beq_eq_true hss;subst hss;obtain ⟨hlv,h2⟩:=Ab h;obtain ⟨hin,h2⟩:=Ab h2;have hin:i<j.len u:=by simpa [nlt] using hin
 have:=Aa h2;subst this;obtain ⟨c,ms,xs,hk,g1,g2,g3,g4,g5,g6,g7,g8,g9⟩:=Cd hg hh;obtain ⟨o',ms',gb,n,cap,hk',hm',hcx⟩:=hx;rw [hk] at hk';obtain ⟨-,rfl⟩:=AC hk';have hm:u<j.n∧HF S w j xs u (.slice (some ⟨gb,0,none⟩) n cap):=by
  rcases g8 u _ hm' with h | ⟨q,k,_,_,h⟩
  ·exact h
  ·rcases h.form with h | ⟨_,h⟩ <;> cases h
 obtain ⟨hun,hm⟩:=hm;unfold HF at hm;rw [hlv] at hm;obtain ⟨z1,ys,z2,z3⟩:=hm;obtain ⟨ci,q1,q2,q3,q4⟩:=z3 i hin;obtain ⟨ci',p1,p2,p3,p4,p5⟩:=NV hpc hfr hr h1 q1 q2 q3;have hle:off+cy.cells.toList.length <= j.s':=by omega
 obtain ⟨gb2,cap2,cur,e,hgw,hcur,hown'⟩:=JW z2 hin cy.cells.toList hle;simp at e;obtain ⟨rfl,_⟩:=e;have hrun':=hok gb (i * j.s'+off) cur j.e' hcx hgw (by rw [<- hl]; exact hcur);have hwk:∀ k,k ≠ gb->(w.setRow gb (cur.toList.take (i * j.s'+off)++cy.cells.toList++cur.toList.drop (i * j.s'+off+cy.cells.toList.length)).toArray).heap[k]? = w.heap[k]? :=
  λk hk=>setRow_other w gb k _ hk
 have htop:inBlk (κ id) gb (.jag j):=by rw [hk]; exact BU hm' rfl
 have hS:∀ b,S b->S b∧(w.setRow gb (cur.toList.take (i * j.s'+off)++cy.cells.toList++cur.toList.drop (i * j.s'+off+cy.cells.toList.length)).toArray).heap[b]? = w.heap[b]? :=
  λb hb=>⟨hb,hwk b λeb=>(hg.out b hb).2 id (by rw [eb]; exact (Aq hh).2 htop)⟩
 have hup:=Good.upd' (w':=w.setRow gb (cur.toList.take (i * j.s'+off)++cy.cells.toList++cur.toList.drop (i * j.s'+off+cy.cells.toList.length)).toArray)
  (b':=.jag { j with mem:=Dz j.mem u (BF (j.mem u) i v) }) hg hh (λk hk=>hk) (λk hk _=>hwk k λe=>hk (by rw [e]; exact htop)) (Nat.le_of_eq (size_setRow _ _ _).symm)
  ⟨_,ms,xs,hk,g1,g2,g3,g4,BQ g5 λg hg2=>hwk g λe=>(g9 u _ gb hm' rfl).1 (by rw [hg2,e]),g6,NK.mono (j:=j) g7 hS,λk m hm=>?_,g9⟩
 ·unfold Oper.wp
  rw [hrun'];exact hp κ S undef _ hup.1 (VR.mono_go hS _ _ _ _ (λ_ _ h=>h) ht) rfl (Ext.upd' hg hh rfl (λk hk _=>hwk k λe=>hk (by rw [e]; exact htop)) (Nat.le_of_eq (size_setRow _ _ _).symm) rfl rfl rfl hup.2 (λ_ _ _ _ h=>by cases h)
   (λhf=>absurd hf (Bj _)))
 ·by_cases eku:k=u
  ·subst eku
   rw [hm'] at hm;cases hm;refine .inl ⟨hun,?_⟩;unfold HF;show (match j.live k with | true=>_ | false=>_)
   rw [hlv];refine ⟨z1,_,hown',λq hq=>?_⟩;show ∃ ci,VR S _ (Dz j.mem k (BF (j.mem k) i v) k q) noK ci∧_;rw [G7,D7];by_cases eqi:q=i
   ·subst eqi
    rw [show Nat.beq q q=true from Nat.beq_refl q];refine ⟨ci',VR.mono hS _ _ _ _ (λ_ _ h=>h) p1,p2,p3,λy hy=>?_⟩;rw [BI z2.1 hin hle hy,p4 y hy,hl];by_cases hc:off <= y∧y<off+cs.length
    ·rw [if_pos ⟨rfl,hc⟩,if_pos hc,Array.getElem?_toList]
    ·rw [if_neg (λh=>hc h.2),if_neg hc]
     exact q4 y hy
   ·rw [show Nat.beq q i=false from LN eqi]
    obtain ⟨cq,y1,y2,y3,y4⟩:=z3 q hq;refine ⟨cq,VR.mono hS _ _ _ _ (λ_ _ h=>h) y1,y2,y3,λy hy=>?_⟩;rw [BI z2.1 hin hle hy,if_neg (λh=>eqi h.1)];exact y4 y hy
  ·have hb:∀ g,Ak (some m)=some g->_:=λg hg2=>hwk g λe=>(g9 u _ gb hm' rfl).2 k m eku hm (by rw [hg2,e])
   rcases g8 k m hm with ⟨hkn,h8⟩ | ⟨q,k,h81,rfl,h8⟩
   ·exact .inl ⟨hkn,h8.re hS hb rfl rfl rfl rfl rfl rfl (JM eku) rfl⟩
   ·exact .inr ⟨q,k,h81,rfl,h8.re hb rfl rfl rfl rfl rfl rfl rfl rfl⟩
theorem Iu (hg:Good κ S st.h w) {l:List Value} (ht:VRs S w st.t κ l) {id i:Nat} {cx:Value} (hx:VR S w (.mref id i) κ cx) {st1:St} (h:(Iv st id i).sem=some st1) :
  ∃ κ' j,st.h[id]? = some (.jag j)∧j.live i=true∧st1.h[st.h.length]? = some (.row j.e' j.s' (j.len i) (j.mem i))∧Good κ' S st1.h w∧VRs S w st1.t κ' l∧Ext κ S st.h w κ' S st1.h w∧VR S w (.ref st.h.length) κ' cx ∧
   (∀ (v:V) (c:Value),VR S w v κ c->VR S w (killM id v) κ' c):=by
 unfold Iv at h;split at h
 ·rename_i j hh
  obtain ⟨hl,h2⟩:=Ab h;have:=Aa h2;subst this;obtain ⟨c,ms,xs,hk,hj⟩:=Cd hg hh;obtain ⟨o',ms',hk',hm,a0,n0,cap0,hcx⟩:=hx;rw [hk] at hk';obtain ⟨rfl,rfl⟩:=AC hk';have hin:i<j.n:=by
   subst hcx;exact hj.ltS hm
  obtain ⟨hxi,ys,ho,he⟩:=hj.mem hm hin hl;obtain ⟨g1,g2,g3,g4,g5,g6,g7,g8,g9⟩:=hj;have hlen:id<st.h.length:=(List.getElem?_eq_some_iff.1 hh).1;have him:i<ms.size:=(Array.getElem?_eq_some_iff.1 hm).1;have hms:∀ q m,(ms.setIfInBounds i (.slice none 0 0))[q]? = some m->(q=i∧m = .slice none 0 0) ∨ (q ≠ i∧ms[q]? = some m):=λq m hq=>by
   rw [Array.getElem?_setIfInBounds] at hq;by_cases hqi:i=q
   ·rw [if_pos hqi,if_pos him] at hq
    exact .inl ⟨hqi.symm,(Option.some.inj hq).symm⟩
   ·rw [if_neg hqi] at hq
    exact .inr ⟨Ne.symm hqi,hq⟩
  let κ1:=FW κ id (.tuple #[c,.agg (ms.setIfInBounds i (.slice none 0 0))])
  have hκid:AZ κ1 st.h.length cx id=some (.tuple #[c,.agg (ms.setIfInBounds i (.slice none 0 0))]):=by
   unfold AZ;rw [if_neg (by omega)];exact FA _ _ _
  have hκlen:AZ κ1 st.h.length cx st.h.length=some cx:=by simp [AZ]
  have hκne:∀ q,q ≠ id->q ≠ st.h.length->AZ κ1 st.h.length cx q=κ q:=λq h1 h2=>by
   unfold AZ;rw [if_neg h2];exact FM h1
  have hkk:∀ q u,q ≠ id->κ q=some u->AZ κ1 st.h.length cx q=some u:=λq u h1 h2=>by
   rw [hκne q h1 (λe=>by rw [e,hg.dom _ (Nat.le_refl _)] at h2; cases h2)];exact h2
  have hS:∀ b,S b->S b∧w.heap[b]? = w.heap[b]?:=λ_ hb=>⟨hb,rfl⟩;have hkill:∀ (vs:List V) (l:List Value),VRs S w vs κ l->VRs S w (killM.kills id vs) (AZ κ1 st.h.length cx) l:=λvs l hv=>ET hS hk hκid hkk vs l hv;have hset:∀ q,q ≠ id->q<st.h.length->((BL id st.h).set id (.jag { j with live:=Da j.live i false })++[.row j.e' j.s' (j.len i) (j.mem i)])[q]? = (st.h[q]?).map (Fi id):=λq h1 h2=>by
   rw [List.getElem?_append_left (by simp [AX]; exact h2),List.getElem?_set_ne (Ne.symm h1),FY]
  have hat:((BL id st.h).set id (.jag { j with live:=Da j.live i false })++[.row j.e' j.s' (j.len i) (j.mem i)])[id]? = some (.jag { j with live:=Da j.live i false }):=by
   rw [List.getElem?_append_left (by simp [AX]; exact hlen),List.getElem?_set_self (by simpa [AX] using hlen)]
  have hlast:((BL id st.h).set id (.jag { j with live:=Da j.live i false })++[.row j.e' j.s' (j.len i) (j.mem i)])[st.h.length]? = some (.row j.e' j.s' (j.len i) (j.mem i)):=by
   rw [List.getElem?_append_right (by simp [AX])];simp [AX]
  have hr:Regroup κ st.h w (AZ κ1 st.h.length cx) ((BL id st.h).set id (.jag { j with live:=Da j.live i false })++[.row j.e' j.s' (j.len i) (j.mem i)]) w S (λq=>q=id ∨ q=st.h.length) (Fi id):=by
   refine ⟨λq hq=>?_,IJ id,λq b _ _ hb hh=>A7.killM hS hkill hb hh,λ_ _ _=>rfl,Nat.le_refl _,λq b hq hb=>?_,λq k hq ho'=>?_,λq q' k hq hq' hne h1 h2=>?_,λq hq=>?_,λq e s n g hq=>?_,λq b hq hb=>?_⟩
   ·have h1:q ≠ id:=λe=>hq (.inl e)
    have h2:q ≠ st.h.length:=λe=>hq (.inr e);refine ⟨?_,hκne q h1 h2⟩;rcases Nat.lt_or_ge q st.h.length with hlt | hge
    ·exact hset q h1 hlt
    ·rw [List.getElem?_eq_none (by simp [AX]; omega),List.getElem?_eq_none hge]
     rfl
   ·rcases hq.imp Eq.symm Eq.symm with rfl | rfl
    ·rw [hat] at hb
     simp at hb;subst hb;rw [hκid];refine ⟨c,_,xs,rfl,g1,g2,g3,by rw [Array.size_setIfInBounds]; exact g4,g5,g6,g7,λq m hq=>?_,λq m g hq hgm=>?_⟩
     ·rcases hms q m hq with ⟨rfl,rfl⟩ | ⟨hne,hq⟩
      ·refine .inl ⟨hin,?_⟩
       unfold HF;show (match Da j.live q false q with | true=>_ | false=>_)
       rw [JP]
      ·rcases g8 q m hq with ⟨hkn,h8⟩ | ⟨u,k,h81,rfl,h8⟩
       ·exact .inl ⟨hkn,h8.re hS (λ_ _=>rfl) rfl rfl rfl rfl (O7 hne) rfl rfl rfl⟩
       ·exact .inr ⟨u,k,h81,rfl,h8⟩
     ·rcases hms q m hq with ⟨rfl,rfl⟩ | ⟨hne,hq⟩
      ·simp [Ak] at hgm
      ·refine ⟨(g9 q m g hq hgm).1,λq' m' hne' hq'=>?_⟩
       rcases hms q' m' hq' with ⟨rfl,rfl⟩ | ⟨_,hq'⟩
       ·simp [Ak]
       ·exact (g9 q m g hq hgm).2 q' m' hne' hq'
    ·rw [hlast] at hb
     simp at hb;subst hb;rw [hκlen];exact ⟨g2,cx,ys,rfl,ho,he⟩
   ·refine .inl ⟨id,.inl rfl,(Aq hh).2 ?_⟩
    rw [hk];rcases hq.imp Eq.symm Eq.symm with rfl | rfl
    ·rw [Aq hat,hκid] at ho'
     obtain ⟨c',ms',e,hkb⟩:=ho';obtain ⟨rfl,rfl⟩:=AC e;rcases hkb with hkb | ⟨q',m,hq',hkb⟩
     ·exact DD hkb
     ·rcases hms q' m hq' with ⟨rfl,rfl⟩ | ⟨hne,hq'⟩
      ·simp [Ak] at hkb
      ·exact BU hq' hkb
    ·rw [Aq hlast,hκlen] at ho'
     exact BU hm ho'
   ·have key:∀ k,A3 (AZ κ1 st.h.length cx) ((BL id st.h).set id (.jag { j with live:=Da j.live i false })++[.row j.e' j.s' (j.len i) (j.mem i)]) id k->¬ A3 (AZ κ1 st.h.length cx) ((BL id st.h).set id (.jag { j with live:=Da j.live i false })++[.row j.e' j.s' (j.len i) (j.mem i)]) st.h.length k:=λk h1 h2=>by
     rw [Aq hat,hκid] at h1;rw [Aq hlast,hκlen] at h2;have h2:Ak (some cx)=some k:=h2;obtain ⟨c',ms',e,hkb⟩:=h1;obtain ⟨rfl,rfl⟩:=AC e;rcases hkb with hkb | ⟨q',m,hq',hkb⟩
     ·exact (g9 i cx k hm h2).1 hkb
     ·rcases hms q' m hq' with ⟨rfl,rfl⟩ | ⟨hne,hq'⟩
      ·simp [Ak] at hkb
      ·exact (g9 i cx k hm h2).2 q' m hne hq' hkb
    rcases hq.imp Eq.symm Eq.symm with rfl | rfl <;> rcases hq'.imp Eq.symm Eq.symm with rfl | rfl
    ·exact hne rfl
    ·exact key k h1 h2
    ·exact key k h2 h1
    ·exact hne rfl
   ·simp [AX] at hq
    rw [hκne q (by omega) (by omega)];exact hg.dom q (by omega)
   ·rcases hq.imp Eq.symm Eq.symm with rfl | rfl
    ·rw [hh]; simp
    ·rw [List.getElem?_eq_none (Nat.le_refl _)]; simp
   ·intro hf
    rcases hq.imp Eq.symm Eq.symm with rfl | rfl
    ·rw [hat] at hb
     simp at hb;subst hb;exact Bj _ hf
    ·rw [hlast] at hb
     simp at hb;subst hb;rcases hf with ⟨_,_,_,_,hf⟩ | ⟨_,hf⟩ <;> cases hf
  refine ⟨AZ κ1 st.h.length cx,j,hh,hl,hlast,hg.regroup hr,hkill _ _ ht,Ext.regroup hg hr rfl rfl rfl,⟨hκlen,.inl ⟨_,_,_,hcx⟩⟩,λv c hv=>?_⟩;exact W7 hS hk hκid hkk v c hv
 ·cases h
theorem AcO (hg:Good κ S st.h w) {l:List Value} (ht:VRs S w st.t κ l) {id i r:Nat} {cy:Value} (hy:VR S w (.ref r) κ cy) {st2:St} (h:(Vj st id i r).sem=some st2) :
  ∃ j,st.h[id]? = some (.jag j)∧i<j.n∧∃ (gb cap:Nat) (cur ms:Array Value),κ id=some (.tuple #[.slice (some ⟨gb,0,none⟩) j.n cap,.agg ms])∧w.heap[gb]? = some (.cells cur j.e (0,0))∧i * j.size+j.off+1 <= cur.size∧cy.oneCell'=true ∧
   ∀ w',w'=w.setRow gb (cur.toList.take (i * j.size+j.off)++[cy]++cur.toList.drop (i * j.size+j.off+1)).toArray ->
    ∃ κ',Good κ' S st2.h w'∧VRs S w' st2.t κ' l∧Ext κ S st.h w κ' S st2.h w':=by
 unfold Vj at h;split at h
 ·rename_i j e s n g hh hrow
  split at h
  ·rename_i he hs
   have he:e=j.e':=Nat.eq_of_beq_eq_true he;have hs:s=j.s':=Nat.eq_of_beq_eq_true hs;subst he;subst hs;obtain ⟨hin,h2⟩:=Ab h;have hin:i<j.n:=by simpa [nlt] using hin
   have:=Aa h2;subst this;obtain ⟨c,ms,xs,hk,hj⟩:=Cd hg hh;obtain ⟨hs0,cr,ys,hkr,hor,her⟩:=E2 hg hrow;obtain ⟨hy1,hy2⟩:=hy;rw [hkr] at hy1;simp at hy1;subst hy1;have hrid:r ≠ id:=λe=>by rw [e,hh] at hrow; cases hrow
   have hlen:id<st.h.length:=(List.getElem?_eq_some_iff.1 hh).1;have hrlen:r<st.h.length:=(List.getElem?_eq_some_iff.1 hrow).1;obtain ⟨m0,hm0⟩:=hj.at hin;obtain ⟨g1,g2,g3,g4,g5,g6,g7,g8,g9⟩:=hj;have him:i<ms.size:=(Array.getElem?_eq_some_iff.1 hm0).1;obtain ⟨gb,cap,cur,rfl,hgw,hcur,hown'⟩:=JW g5 hin [cr] (show j.off+[cr].length <= j.size from g3.1);have hone:cr.oneCell'=true:=by
    obtain ⟨a,cap,rfl⟩:=Br hor;rfl
   refine ⟨j,hh,hin,gb,cap,cur,ms,hk,hgw,by simpa using hcur,hone,λw' hw'=>?_⟩;have hown':w'.ownsRow 0 j.e j.size (.slice (some ⟨gb,0,none⟩) j.n cap) j.n (xs.take (i * j.size+j.off)++[cr]++xs.drop (i * j.size+j.off+1)):=by rw [hw']; exact hown'
   have hwk:∀ k,k ≠ gb->w'.heap[k]? = w.heap[k]?:=λk hk=>by rw [hw']; exact setRow_other w gb k _ hk
   have hsz:w'.heap.size=w.heap.size:=by rw [hw']; exact size_setRow _ _ _
   have htop:A3 κ st.h id gb:=(Aq hh).2 (by rw [hk]; exact DD rfl);have hrb:∀ k,Ak (some cr)=some k->A3 κ st.h r k:=λk hb=>(Aq hrow).2 (by rw [hkr]; exact hb);have hrgb:∀ k,Ak (some cr)=some k->k ≠ gb:=λk hb e=>hg.sep r id k hrid (hrb k hb) (by rw [e]; exact htop);have hms:∀ q m,(ms.setIfInBounds i cr)[q]? = some m->(q=i∧m=cr) ∨ (q ≠ i∧ms[q]? = some m):=λq m hq=>by
    rw [Array.getElem?_setIfInBounds] at hq;by_cases hqi:i=q
    ·rw [if_pos hqi,if_pos him] at hq
     exact .inl ⟨hqi.symm,(Option.some.inj hq).symm⟩
    ·rw [if_neg hqi] at hq
     exact .inr ⟨Ne.symm hqi,hq⟩
   let κ1:=FW κ id (.tuple #[.slice (some ⟨gb,0,none⟩) j.n cap,.agg (ms.setIfInBounds i cr)])
   have hκid:κ1 id=some (.tuple #[.slice (some ⟨gb,0,none⟩) j.n cap,.agg (ms.setIfInBounds i cr)]):=FA _ _ _;have hκne:∀ q,q ≠ id->κ1 q=κ q:=λq h1=>FM h1;have hS0:∀ b,S b->S b∧w.heap[b]? = w.heap[b]?:=λ_ hb=>⟨hb,rfl⟩;have hS:∀ b,S b->S b∧w'.heap[b]? = w.heap[b]?:=λb hb=>⟨hb,hwk b λe=>(hg.out b hb).2 id (by rw [e]; exact htop)⟩;have hnp:Jd (κ r):=λa=>by
    obtain ⟨a',cap',rfl⟩:=Br hor;rw [hkr];simp
   have hkill1:∀ (vs:List V) (l:List Value),VRs S w vs κ l->VRs S w (kill.kills r vs) κ l:=λvs l hv=>Dm hS0 hnp (λ_ _=>rfl) vs l hv;have hkill2:∀ (vs:List V) (l:List Value),VRs S w vs κ l->VRs S w' (killM.kills id vs) κ1 l:=λvs l hv=>ET hS hk hκid (λq u h1 h2=>by rw [hκne q h1]; exact h2) vs l hv;have hset:∀ q,q ≠ id->q ≠ r->(((BL id (AU r st.h)).set r .dead).set id (.jag { j with live:=Da j.live i true,len:=Dq j.len i n,mem:=Dz j.mem i g }))[q]? = (st.h[q]?).map (λb=>Fi id (Fj r b)):=λq h1 h2=>by
    rw [List.getElem?_set_ne (Ne.symm h1),List.getElem?_set_ne (Ne.symm h2),FY,CW,Option.map_map];rfl
   have hat:(((BL id (AU r st.h)).set r .dead).set id (.jag { j with live:=Da j.live i true,len:=Dq j.len i n,mem:=Dz j.mem i g }))[id]? = some (.jag { j with live:=Da j.live i true,len:=Dq j.len i n,mem:=Dz j.mem i g }) :=
    List.getElem?_set_self (by simpa [AX,AI] using hlen)
   have hatr:(((BL id (AU r st.h)).set r .dead).set id (.jag { j with live:=Da j.live i true,len:=Dq j.len i n,mem:=Dz j.mem i g }))[r]? = some .dead:=by
    rw [List.getElem?_set_ne (Ne.symm hrid),List.getElem?_set_self (by simpa [AX,AI] using hrlen)]
   have hfarm:∀ q m k,ms[q]? = some m->Ak (some m)=some k->k ≠ gb:=λq m k hq hb e=>(g9 q m k hq hb).1 (by rw [e]; rfl);have hr:Regroup κ st.h w κ1 (((BL id (AU r st.h)).set r .dead).set id (.jag { j with live:=Da j.live i true,len:=Dq j.len i n,mem:=Dz j.mem i g })) w' S (λq=>q=id ∨ q=r) (λb=>Fi id (Fj r b)):=by
    refine ⟨λq hq=>⟨hset q (λe=>hq (.inl e)) (λe=>hq (.inr e)),hκne q (λe=>hq (.inl e))⟩,(IJ id).comp (Gb r),λq b _ _ hb hh=>?_,λk _ hk=>hwk k λe=>hk id (.inl rfl) (by rw [e]; exact htop),Nat.le_of_eq hsz.symm,
     λq b hq hb=>?_,λq k hq ho'=>?_,λq q' k hq hq' hne h1 h2=>?_,λq hq=>?_,λq e s n g hq=>?_,λq b hq hb=>?_⟩
    ·exact A7.killM hS hkill2 (λk hk=>hb k (EX.1 hk)) (A7.kill hS0 hkill1 (λ_ _=>rfl) hh)
    ·rcases hq.imp Eq.symm Eq.symm with rfl | rfl
     ·rw [hat] at hb
      simp at hb;subst hb;rw [hκid];refine ⟨_,_,_,rfl,g1,g2,g3,by rw [Array.size_setIfInBounds]; exact g4,hown',λu hu=>?_,λk hkn=>?_,λq m hq=>?_,λq m k hq hkm=>?_⟩
      ·simp only [List.mem_append,List.mem_singleton] at hu
       rcases hu with (hu | rfl) | hu
       ·exact g6 u (List.mem_of_mem_take hu)
       ·exact hone
       ·exact g6 u (List.mem_of_mem_drop hu)
      ·obtain ⟨ck,z1,z2,z3,z4⟩:=g7 k hkn
       refine ⟨ck,VR.mono hS _ _ _ _ (λ_ _ h=>h) z1,z2,z3,λp hp hpo hpm=>?_⟩;have:=BI (k:=k) (news:=[cr]) g5.1 hin (show j.off+[cr].length <= j.size from g3.1) hp;rw [List.length_singleton] at this;show (xs.take (i * j.size+j.off)++[cr]++xs.drop (i * j.size+j.off+1))[k * j.size+p]? = _;rw [this,if_neg (λh=>hpo (show p=j.off by omega))];exact z4 p hp hpo hpm
      ·have hcell:=BI (k:=q) (news:=[cr]) g5.1 hin (show j.off+[cr].length <= j.size from g3.1) g3.1
       rw [List.length_singleton] at hcell;rcases hms q m hq with ⟨rfl,rfl⟩ | ⟨hne,hq⟩
       ·refine .inl ⟨hin,?_⟩
        unfold HF;show (match Da j.live q true q with | true=>_ | false=>_)
        rw [JP];refine ⟨?_,ys,?_,?_⟩
        ·show (xs.take (q * j.size+j.off)++[m]++xs.drop (q * j.size+j.off+1))[q * j.size+j.off]? = _
         rw [hcell,if_pos ⟨rfl,by omega,by omega⟩];simp
        ·show w'.ownsRow 0 j.e' j.s' m (Dq j.len q n q) ys
         rw [G6];exact BQ hor λk hb=>hwk k (hrgb k hb)
        ·show CS S w' j.s' (Dq j.len q n q) (Dz j.mem q g q) ys
         rw [G6,G7];exact her.mono hS
       ·rcases g8 q m hq with ⟨hkn,h8⟩ | ⟨u,k,h81,rfl,h8⟩
        ·exact .inl ⟨hkn,h8.re hS (λk hb=>hwk k (hfarm q m k hq hb)) rfl rfl rfl rfl (O7 hne) (O5 hne) (JM hne) (by rw [hcell,if_neg (λh=>hne h.1)])⟩
        ·refine .inr ⟨u,k,h81,rfl,h8.re (λg hb=>hwk g (hfarm _ m g hq hb)) rfl rfl rfl rfl rfl rfl rfl ?_⟩
         have:=BI (k:=k) (news:=[cr]) g5.1 hin (show j.off+[cr].length <= j.size from g3.1) (g3.2 u h81).1;rw [List.length_singleton] at this;rw [this,if_neg (λh=>(g3.2 u h81).2 (by omega))]
      ·have hout:∀ q m k,ms[q]? = some m->Ak (some m)=some k->Ak (some cr) ≠ some k:=λq m k hq hb hc=>by
        exact hg.sep r id k hrid (hrb k hc) ((Aq hh).2 (by rw [hk]; exact BU hq hb))
       rcases hms q m hq with ⟨rfl,rfl⟩ | ⟨hne,hq2⟩
       ·refine ⟨λe=>?_,λq' m' hne' hq'=>?_⟩
        ·have:gb=k:=by simpa [Ak] using e
         exact hrgb k hkm this.symm
        ·rcases hms q' m' hq' with ⟨rfl,rfl⟩ | ⟨_,hq'⟩
         ·exact absurd rfl hne'
         ·exact λe=>hout q' m' k hq' e hkm
       ·refine ⟨(g9 q m k hq2 hkm).1,λq' m' hne' hq'=>?_⟩
        rcases hms q' m' hq' with ⟨rfl,rfl⟩ | ⟨_,hq3⟩
        ·exact hout q m k hq2 hkm
        ·exact (g9 q m k hq2 hkm).2 q' m' hne' hq3
     ·rw [hatr] at hb
      simp at hb;subst hb;trivial
    ·rcases hq.imp Eq.symm Eq.symm with rfl | rfl
     ·rw [Aq hat,hκid] at ho'
      obtain ⟨c',ms',e,hkb⟩:=ho';obtain ⟨rfl,rfl⟩:=AC e;rcases hkb with hkb | ⟨q',m,hq',hkb⟩
      ·exact .inl ⟨id,.inl rfl,(Aq hh).2 (by rw [hk]; exact DD hkb)⟩
      ·rcases hms q' m hq' with ⟨rfl,rfl⟩ | ⟨hne,hq'⟩
       ·exact .inl ⟨r,.inr rfl,hrb k hkb⟩
       ·exact .inl ⟨id,.inl rfl,(Aq hh).2 (by rw [hk]; exact BU hq' hkb)⟩
     ·rw [Aq hatr] at ho'
      exact ho'.elim
    ·rcases hq.imp Eq.symm Eq.symm with rfl | rfl <;> rcases hq'.imp Eq.symm Eq.symm with rfl | rfl
     ·exact hne rfl
     ·rw [Aq hatr] at h2; exact h2.elim
     ·rw [Aq hatr] at h1; exact h1.elim
     ·exact hne rfl
    ·simp [AX,AI] at hq
     rw [hκne q (by omega)];exact hg.dom q hq
    ·rcases hq.imp Eq.symm Eq.symm with rfl | rfl
     ·rw [hh]; simp
     ·rw [hrow]; simp
    ·intro hf
     rcases hq.imp Eq.symm Eq.symm with rfl | rfl
     ·rw [hat] at hb
      simp at hb;subst hb;exact Bj _ hf
     ·rw [hatr] at hb
      simp at hb;subst hb;rcases hf with ⟨_,_,_,_,hf⟩ | ⟨_,hf⟩ <;> cases hf
   exact ⟨κ1,hg.regroup hr,hkill2 _ _ (hkill1 _ _ ht),Ext.regroup hg hr (by rw [hw']; rfl) (by rw [hw']; rfl) (by rw [hw']; rfl)⟩
  ·cases h
 ·cases h
theorem JO {α:Type} (f:Nat->Int->α) (k:Nat) (g:Int->α):Gy f k g k=g:=by funext x; simp [Gy,sel,Kd]
theorem O6 {α:Type} {f:Nat->Int->α} {k i:Nat} {g:Int->α} (h:i ≠ k):Gy f k g i=f i:=by funext x; simp [Gy,sel,LN h]
theorem Aa8 {t:TypeId} {get:Int->Int} {o:Obj} (h:Yz t 0 get o):RP t 0 (λ_=>false) (λ_=>0) o:=by
 unfold Yz at h;unfold RP;split at h
 ·obtain ⟨es,clock,rfl,F,hs,hg⟩:=h
  obtain rfl:es=#[]:=Array.eq_empty_of_size_eq_zero (Nat.le_zero.1 hs);exact ⟨#[],clock,rfl,F,rfl,λ_ _=>rfl,λx hx d=>rfl⟩
 ·exact h.elim
theorem AcM (hg:Good κ S st.h w) {l:List Value} (ht:VRs S w st.t κ l) {id i r:Nat} {cy:Value} (hy:VR S w (.ref r) κ cy) {st2:St} (h:(AcN st id i r).sem=some st2) :
  ∃ j u,st.h[id]? = some (.jag j)∧j.mp=some u∧i<j.n∧∃ (gb cap:Nat) (cur ms:Array Value),κ id=some (.tuple #[.slice (some ⟨gb,0,none⟩) j.n cap,.agg ms])∧w.heap[gb]? = some (.cells cur j.e (0,0))∧i * j.size+u.off+1 <= cur.size∧cy.oneCell'=true ∧
   ∀ w',w'=w.setRow gb (cur.toList.take (i * j.size+u.off)++[cy]++cur.toList.drop (i * j.size+u.off+1)).toArray ->
    ∃ κ',Good κ' S st2.h w'∧VRs S w' st2.t κ' l∧Ext κ S st.h w κ' S st2.h w':=by
 unfold AcN at h;split at h
 ·rename_i j t get0 hh hrow
  split at h
  ·rename_i u hu
   split at h
   rotate_left
   ·cases h
   rename_i ht0;have ht0:t=u.t:=Nat.eq_of_beq_eq_true ht0;subst ht0;obtain ⟨hin,h2⟩:=Ab h;have hin:i<j.n:=by simpa [nlt] using hin
   have:=Aa h2;subst this;obtain ⟨c,ms,xs,hk,hj⟩:=Cd hg hh;obtain ⟨b0,o0,hkr,hor,her⟩:=hg.blk r _ hrow;obtain ⟨hy1,hy2⟩:=hy;rw [hkr] at hy1;simp at hy1;subst hy1;have her:=Aa8 her;have hrid:r ≠ id:=λe=>by rw [e,hh] at hrow; cases hrow
   have hlen:id<st.h.length:=(List.getElem?_eq_some_iff.1 hh).1;have hrlen:r<st.h.length:=(List.getElem?_eq_some_iff.1 hrow).1;obtain ⟨m0,hm0⟩:=hj.atM hu hin;obtain ⟨g1,g2,g3,g4,g5,g6,g7,g8,g9⟩:=hj;have him:j.n+i<ms.size:=(Array.getElem?_eq_some_iff.1 hm0).1;obtain ⟨gb,cap,cur,rfl,hgw,hcur,hown'⟩:=JW g5 hin [.map (some b0)] (show u.off+[.map (some b0)].length <= j.size from (g3.2 u hu).1);refine ⟨j,u,hh,hu,hin,gb,cap,cur,ms,hk,hgw,by simpa using hcur,rfl,λw' hw'=>?_⟩;have hown':w'.ownsRow 0 j.e j.size (.slice (some ⟨gb,0,none⟩) j.n cap) j.n (xs.take (i * j.size+u.off)++[.map (some b0)]++xs.drop (i * j.size+u.off+1)):=by rw [hw']; exact hown'
   have hwk:∀ k,k ≠ gb->w'.heap[k]? = w.heap[k]?:=λk hk=>by rw [hw']; exact setRow_other w gb k _ hk
   have hsz:w'.heap.size=w.heap.size:=by rw [hw']; exact size_setRow _ _ _
   have htop:A3 κ st.h id gb:=(Aq hh).2 (by rw [hk]; exact DD rfl);have hrb:∀ k,Ak (some (.map (some b0)))=some k->A3 κ st.h r k:=λk hb=>(Aq hrow).2 (by rw [hkr]; exact hb);have hrgb:∀ k,Ak (some (.map (some b0)))=some k->k ≠ gb:=λk hb e=>hg.sep r id k hrid (hrb k hb) (by rw [e]; exact htop);have hms:∀ q m,(ms.setIfInBounds (j.n+i) (.map (some b0)))[q]? = some m->(q=j.n+i∧m = .map (some b0)) ∨ (q ≠ j.n+i∧ms[q]? = some m):=λq m hq=>by
    rw [Array.getElem?_setIfInBounds] at hq;by_cases hqi:j.n+i=q
    ·rw [if_pos hqi,if_pos him] at hq
     exact .inl ⟨hqi.symm,(Option.some.inj hq).symm⟩
    ·rw [if_neg hqi] at hq
     exact .inr ⟨Ne.symm hqi,hq⟩
   let κ1:=FW κ id (.tuple #[.slice (some ⟨gb,0,none⟩) j.n cap,.agg (ms.setIfInBounds (j.n+i) (.map (some b0)))])
   have hκid:κ1 id=some (.tuple #[.slice (some ⟨gb,0,none⟩) j.n cap,.agg (ms.setIfInBounds (j.n+i) (.map (some b0)))]):=FA _ _ _;have hκne:∀ q,q ≠ id->κ1 q=κ q:=λq h1=>FM h1;have hS0:∀ b,S b->S b∧w.heap[b]? = w.heap[b]?:=λ_ hb=>⟨hb,rfl⟩;have hS:∀ b,S b->S b∧w'.heap[b]? = w.heap[b]?:=λb hb=>⟨hb,hwk b λe=>(hg.out b hb).2 id (by rw [e]; exact htop)⟩;have hnp:Jd (κ r):=λa=>by
    rw [hkr];simp
   have hkill1:∀ (vs:List V) (l:List Value),VRs S w vs κ l->VRs S w (kill.kills r vs) κ l:=λvs l hv=>Dm hS0 hnp (λ_ _=>rfl) vs l hv;have hkill2:∀ (vs:List V) (l:List Value),VRs S w vs κ l->VRs S w' (killM.kills id vs) κ1 l:=λvs l hv=>ET hS hk hκid (λq u h1 h2=>by rw [hκne q h1]; exact h2) vs l hv;have hset:∀ q,q ≠ id->q ≠ r->(((BL id (AU r st.h)).set r .dead).set id (.jag { j with mp:=some { u with live:=Da u.live i true,len:=Dq u.len i 0,hs:=Gy u.hs i λ_=>false,get:=Gy u.get i λ_=>0 } }))[q]? = (st.h[q]?).map (λb=>Fi id (Fj r b)):=λq h1 h2=>by
    rw [List.getElem?_set_ne (Ne.symm h1),List.getElem?_set_ne (Ne.symm h2),FY,CW,Option.map_map];rfl
   have hat:(((BL id (AU r st.h)).set r .dead).set id (.jag { j with mp:=some { u with live:=Da u.live i true,len:=Dq u.len i 0,hs:=Gy u.hs i λ_=>false,get:=Gy u.get i λ_=>0 } }))[id]? = some (.jag { j with mp:=some { u with live:=Da u.live i true,len:=Dq u.len i 0,hs:=Gy u.hs i λ_=>false,get:=Gy u.get i λ_=>0 } }) :=
    List.getElem?_set_self (by simpa [AX,AI] using hlen)
   have hatr:(((BL id (AU r st.h)).set r .dead).set id (.jag { j with mp:=some { u with live:=Da u.live i true,len:=Dq u.len i 0,hs:=Gy u.hs i λ_=>false,get:=Gy u.get i λ_=>0 } }))[r]? = some .dead:=by
    rw [List.getElem?_set_ne (Ne.symm hrid),List.getElem?_set_self (by simpa [AX,AI] using hrlen)]
   have hfarm:∀ q m k,ms[q]? = some m->Ak (some m)=some k->k ≠ gb:=λq m k hq hb e=>(g9 q m k hq hb).1 (by rw [e]; rfl);have hr:Regroup κ st.h w κ1 (((BL id (AU r st.h)).set r .dead).set id (.jag { j with mp:=some { u with live:=Da u.live i true,len:=Dq u.len i 0,hs:=Gy u.hs i λ_=>false,get:=Gy u.get i λ_=>0 } })) w' S (λq=>q=id ∨ q=r) (λb=>Fi id (Fj r b)):=by
    refine ⟨λq hq=>⟨hset q (λe=>hq (.inl e)) (λe=>hq (.inr e)),hκne q (λe=>hq (.inl e))⟩,(IJ id).comp (Gb r),λq b _ _ hb hh=>?_,λk _ hk=>hwk k λe=>hk id (.inl rfl) (by rw [e]; exact htop),Nat.le_of_eq hsz.symm,
     λq b hq hb=>?_,λq k hq ho'=>?_,λq q' k hq hq' hne h1 h2=>?_,λq hq=>?_,λq e s n g hq=>?_,λq b hq hb=>?_⟩
    ·exact A7.killM hS hkill2 (λk hk=>hb k (EX.1 hk)) (A7.kill hS0 hkill1 (λ_ _=>rfl) hh)
    ·rcases hq.imp Eq.symm Eq.symm with rfl | rfl
     ·rw [hat] at hb
      simp at hb;subst hb;rw [hκid];refine ⟨_,_,_,rfl,g1,g2,⟨g3.1,λq hq=>by cases hq; exact g3.2 u hu⟩,by rw [Array.size_setIfInBounds]; unfold mpN at g4 ⊢; rw [hu] at g4; exact g4,hown',λu hu=>?_,λk hkn=>?_,λq m hq=>?_,λq m k hq hkm=>?_⟩
      ·simp only [List.mem_append,List.mem_singleton] at hu
       rcases hu with (hu | rfl) | hu
       ·exact g6 u (List.mem_of_mem_take hu)
       ·rfl
       ·exact g6 u (List.mem_of_mem_drop hu)
      ·obtain ⟨ck,z1,z2,z3,z4⟩:=g7 k hkn
       refine ⟨ck,VR.mono hS _ _ _ _ (λ_ _ h=>h) z1,z2,z3,λp hp hpo hpm=>?_⟩;have hpm2:=hpm _ rfl;have:=BI (k:=k) (news:=[.map (some b0)]) g5.1 hin (show u.off+[.map (some b0)].length <= j.size from (g3.2 u hu).1) hp;rw [List.length_singleton] at this;show (xs.take (i * j.size+u.off)++[.map (some b0)]++xs.drop (i * j.size+u.off+1))[k * j.size+p]? = _;rw [this,if_neg (λh=>hpm2 (show p=u.off by omega))];exact z4 p hp hpo λq hq=>by rw [hu] at hq; cases hq; exact hpm2
      ·rcases hms q m hq with ⟨rfl,rfl⟩ | ⟨hne,hq⟩
       ·refine .inr ⟨_,i,rfl,rfl,?_⟩
        have hcell:=BI (k:=i) (news:=[.map (some b0)]) g5.1 hin (show u.off+[Value.map (some b0)].length <= j.size from (g3.2 u hu).1) (g3.2 u hu).1;rw [List.length_singleton] at hcell;refine ⟨?_,?_⟩
        ·show (xs.take (i * j.size+u.off)++[.map (some b0)]++xs.drop (i * j.size+u.off+1))[i * j.size+u.off]? = _
         rw [hcell,if_pos ⟨rfl,by omega,by omega⟩];simp
        ·show match Da u.live i true i with | true=>_ | false=>_
         rw [JP];refine ⟨b0,o0,rfl,by rw [hwk b0 (hrgb b0 rfl)]; exact hor,?_⟩;show RP u.t (Dq u.len i 0 i) (Gy u.hs i _ i) (Gy u.get i _ i) o0;rw [G6,JO,JO];exact her
       ·rcases g8 q m hq with ⟨hkn,h8⟩ | ⟨u',k,h81,rfl,h8⟩
        ·refine .inl ⟨hkn,h8.re hS (λk hb=>hwk k (hfarm q m k hq hb)) rfl rfl rfl rfl rfl rfl rfl ?_⟩
         have:=BI (k:=q) (news:=[.map (some b0)]) g5.1 hin (show u.off+[Value.map (some b0)].length <= j.size from (g3.2 u hu).1) g3.1;rw [List.length_singleton] at this;have hqo:=(g3.2 u hu).2;rw [this,if_neg (λh=>hqo (by omega))]
        ·rw [hu] at h81
         cases h81;have hki:k ≠ i:=λe=>hne (by rw [e]);refine .inr ⟨_,k,rfl,rfl,h8.re (λg hb=>hwk g (hfarm _ m g hq hb)) rfl rfl rfl (O7 hki) (O5 hki) (O6 hki) (O6 hki) ?_⟩;have:=BI (k:=k) (news:=[.map (some b0)]) g5.1 hin (show u.off+[Value.map (some b0)].length <= j.size from (g3.2 u hu).1) (g3.2 u hu).1;rw [List.length_singleton] at this;rw [this,if_neg (λh=>hki h.1)]
      ·have hout:∀ q m k,ms[q]? = some m->Ak (some m)=some k->Ak (some (.map (some b0))) ≠ some k:=λq m k hq hb hc=>by
        exact hg.sep r id k hrid (hrb k hc) ((Aq hh).2 (by rw [hk]; exact BU hq hb))
       rcases hms q m hq with ⟨rfl,rfl⟩ | ⟨hne,hq2⟩
       ·refine ⟨λe=>?_,λq' m' hne' hq'=>?_⟩
        ·have:gb=k:=by simpa [Ak] using e
         exact hrgb k hkm this.symm
        ·rcases hms q' m' hq' with ⟨rfl,rfl⟩ | ⟨_,hq'⟩
         ·exact absurd rfl hne'
         ·exact λe=>hout q' m' k hq' e hkm
       ·refine ⟨(g9 q m k hq2 hkm).1,λq' m' hne' hq'=>?_⟩
        rcases hms q' m' hq' with ⟨rfl,rfl⟩ | ⟨_,hq3⟩
        ·exact hout q m k hq2 hkm
        ·exact (g9 q m k hq2 hkm).2 q' m' hne' hq3
     ·rw [hatr] at hb
      simp at hb;subst hb;trivial
    ·rcases hq.imp Eq.symm Eq.symm with rfl | rfl
     ·rw [Aq hat,hκid] at ho'
      obtain ⟨c',ms',e,hkb⟩:=ho';obtain ⟨rfl,rfl⟩:=AC e;rcases hkb with hkb | ⟨q',m,hq',hkb⟩
      ·exact .inl ⟨id,.inl rfl,(Aq hh).2 (by rw [hk]; exact DD hkb)⟩
      ·rcases hms q' m hq' with ⟨rfl,rfl⟩ | ⟨hne,hq'⟩
       ·exact .inl ⟨r,.inr rfl,hrb k hkb⟩
       ·exact .inl ⟨id,.inl rfl,(Aq hh).2 (by rw [hk]; exact BU hq' hkb)⟩
     ·rw [Aq hatr] at ho'
      exact ho'.elim
    ·rcases hq.imp Eq.symm Eq.symm with rfl | rfl <;> rcases hq'.imp Eq.symm Eq.symm with rfl | rfl
     ·exact hne rfl
     ·rw [Aq hatr] at h2; exact h2.elim
     ·rw [Aq hatr] at h1; exact h1.elim
     ·exact hne rfl
    ·simp [AX,AI] at hq
     rw [hκne q (by omega)];exact hg.dom q hq
    ·rcases hq.imp Eq.symm Eq.symm with rfl | rfl
     ·rw [hh]; simp
     ·rw [hrow]; simp
    ·intro hf
     rcases hq.imp Eq.symm Eq.symm with rfl | rfl
     ·rw [hat] at hb
      simp at hb;subst hb;exact Bj _ hf
     ·rw [hatr] at hb
      simp at hb;subst hb;rcases hf with ⟨_,_,_,_,hf⟩ | ⟨_,hf⟩ <;> cases hf
   exact ⟨κ1,hg.regroup hr,hkill2 _ _ (hkill1 _ _ ht),Ext.regroup hg hr (by rw [hw']; rfl) (by rw [hw']; rfl) (by rw [hw']; rfl)⟩
  ·cases h
 ·cases h
include hτ in
theorem Pr (hg:Good κ S st.h w) (ht:VRs S w st.t κ a.tmps.toList) {t:TypeId} {x y:V} {cx cy:Value} (hx:VR S w x κ cx) (hy:VR S w y κ cy)
  (hrun:(execOp a.eval o).run P w=((Instr.storeAt t cx cy).run P w).andThen λ_ w'=>.ok .skip w')
  (h:(Pt τ st t x y).sem=some r) (hp:F4 a o κ S st w K r):o.wp P a w K Q:=by
 unfold Pt at h;split at h
 ·rename_i cs ty hcs hty
  obtain ⟨i0,d,hi,_,_,hs,_⟩:=hτ.info hty;obtain ⟨hr,h1⟩:=Cp hcs hy;have hl:=hr.length;split at h
  ·rename_i hsz
   have hsz:cs.length=ty.size:=Nat.eq_of_beq_eq_true hsz;have hok:∀ (g off:Nat) (cur:Array Value) (e:TypeId),cx = .pointer (some ⟨g,off,none⟩)->w.heap[g]? = some (.cells cur e (0,0))->off+cs.length <= cur.size ->
     (execOp a.eval o).run P w = .ok .skip (w.setRow g (cur.toList.take off++cy.cells.toList++cur.toList.drop (off+cy.cells.toList.length)).toArray):=by
    intro g off cur e hcx hgw hle;have hst:=run_storeCells_at (P:=P) g off e cy.cells.toList 0 cur w hgw (by simpa [hl] using hle) h1;simp only [Nat.add_zero] at hst;have hsz2:¬ (cy.cells.size ≠ i0.size):=by
     have:cy.cells.size=cs.length:=by rw [<- hl]; simp
     rw [this,hsz,hs]; simp
    rw [hrun,hcx];simp only [Instr.storeAt,Instr.sureAddr,Sem.run_bind,Sem.run_pure,Result.andThen_ok,storeVar,AS hi,if_neg hsz2,hst]
   split at h
   ·rename_i id off
    split at h
    ·rename_i old hh
     split at h
     ·rename_i hle
      have hle:off+cs.length <= old.length:=by simpa using hle
      have:=Aa h;subst this;obtain ⟨g,e,ca,hk,hcx,hgw,hrold⟩:=Kq hg hh hx;have hlo:=hrold.length;have hrun':=hok g off ca e hcx hgw (by simp at hlo; omega);have hidb:Ak (κ id)=some g:=by rw [hk]; rfl
      have hwk:∀ k,k ≠ g->(w.setRow g (ca.toList.take off++cy.cells.toList++ca.toList.drop (off+cy.cells.toList.length)).toArray).heap[k]? = w.heap[k]? :=
       λk hk=>setRow_other w g k _ hk
      have hgown:A3 κ st.h id g:=(F6.own (b:=.cells old) trivial hh).2 hidb;have hS:∀ b,S b->S b∧(w.setRow g (ca.toList.take off++cy.cells.toList++ca.toList.drop (off+cy.cells.toList.length)).toArray).heap[b]? = w.heap[b]? :=
       λb hb=>⟨hb,hwk b λeb=>(hg.out b hb).2 id (by rw [eb]; exact hgown)⟩
      have hup:=Good.upd (w':=w.setRow g (ca.toList.take off++cy.cells.toList++ca.toList.drop (off+cy.cells.toList.length)).toArray)
       (b':=.cells (Dc old off cs)) hg hh trivial trivial hidb hwk (size_setRow _ _ _)
       ⟨g,e,_,hk,setRow_heap w g ca _ e _ hgw,by
        rw [List.toList_toArray];exact VR.mono_go hS _ _ _ _ (λ_ _ h=>h) (Hg hrold hr off)⟩
      unfold Oper.wp;rw [hrun'];refine hp κ S undef _ hup.1 (VR.mono_go hS _ _ _ _ (λ_ _ h=>h) ht) rfl (Ext.upd hg hh trivial trivial hidb hwk (size_setRow _ _ _) rfl rfl rfl hup.2
       (λ_ _ _ _=>by simp) (λ_ _ _ _ h=>by cases h))
     ·cases h
    ·cases h
   ·rename_i id s' i off
    split at h
    ·rename_i e s n g hh
     split at h
     ·rename_i v hpc hfr hss
      exact NP (P:=P) hg ht hx hr h1 hl hok (.inl rfl) hh hpc hfr hss h hp
     ·cases h
    ·rename_i e s n g hh
     split at h
     ·rename_i v hpc hfr hss
      exact NP (P:=P) hg ht hx hr h1 hl hok (.inr rfl) hh hpc hfr hss h hp
     ·cases h
    ·cases h
   ·rename_i id s' i off
    split at h
    ·rename_i j hh
     split at h
     ·rename_i hss
      have put:∀ (κ1:Ai) (st1:St) (rr:Nat) (st2:St),Good κ1 S st1.h w->VRs S w st1.t κ1 a.tmps.toList->VR S w (.jept id s' i off) κ1 cx->VR S w (.ref rr) κ1 cy->Ext κ S st.h w κ1 S st1.h w->st1.h[id]? = some (.jag j) ∨ (∃ lv,st1.h[id]? = some (.jag { j with live:=lv })) ->
        off=j.off->cs.length=1->cy.cells.toList=[cy]->(Vj st1 id i rr).sem=some st2->r=(A5,st2)->o.wp P a w K Q:=by
       intro κ1 st1 rr st2 hg1 ht1 hx1 hy1 hext hjj hoff hcl hcc hpi hr2;subst hr2;have hss:s'=j.size:=Nat.eq_of_beq_eq_true hss;obtain ⟨j1,hh1,hin,gb,cap,cur,ms,hk,hgw,hcur,hone,hput⟩:=AcO hg1 ht1 hy1 hpi;obtain ⟨es,eo,ee⟩:j1.size=j.size∧j1.off=j.off∧j1.e=j.e:=by
        rcases hjj with hjj | ⟨lv,hjj⟩ <;> (rw [hjj] at hh1; simp at hh1; subst hh1; exact ⟨rfl,rfl,rfl⟩)
       obtain ⟨g2,n2,cap2,ms2,hk2,hcx⟩:=hx1;rw [hk] at hk2;obtain ⟨e1,rfl⟩:=AC hk2;simp at e1;obtain ⟨rfl,_⟩:=e1;have hrun':=hok gb (i * j1.size+j1.off) cur j1.e (by rw [hcx,hss,hoff,es,eo]) hgw (by rw [hcl]; exact hcur);rw [hcc] at hrun';obtain ⟨κ2,q1,q2,q3⟩:=hput _ rfl;unfold Oper.wp;rw [hrun'];exact hp κ2 S undef _ q1 q2 rfl (hext.trans q3)
      split at h
      ·rename_i rr hoff
       obtain ⟨st2,k1,k2⟩:=Ad h;have hc2:cs=[.ref rr]:=by simpa [V.cells] using hcs.symm
       exact put κ st rr st2 hg ht hx hy (Ext.refl _ _ _ _) (.inl hh) (Nat.eq_of_beq_eq_true hoff) (by rw [hc2]; rfl) (by rw [(EI rfl hy).1]) k1 (Aa k2)
      ·rename_i id2 i2 hoff
       obtain ⟨st1,k1,k2⟩:=Ad h;obtain ⟨st2,k3,k4⟩:=Ad k2;have hc2:cs=[.mref id2 i2]:=by simpa [V.cells] using hcs.symm
       obtain ⟨κ1,j2,hj2,_,hlast,q1,q2,q3,q4,q5⟩:=Iu hg ht hy k1;have hat:st1.h[id]? = some (.jag j) ∨ ∃ lv,st1.h[id]? = some (.jag { j with live:=lv }):=by
        unfold Iv at k1;rw [hj2] at k1;obtain ⟨_,k5⟩:=Ab k1;have:=Aa k5;subst this;have hlen:id<st.h.length:=(List.getElem?_eq_some_iff.1 hh).1;by_cases hii:id2=id
        ·subst hii
         rw [hh] at hj2;simp at hj2;subst hj2;exact .inr ⟨_,by
          show (_++_)[id2]? = _;rw [List.getElem?_append_left (by simp [AX]; exact hlen),List.getElem?_set_self (by simpa [AX] using hlen)]⟩
        ·exact .inl (by
          show (_++_)[id]? = _;rw [List.getElem?_append_left (by simp [AX]; exact hlen),List.getElem?_set_ne hii,FY,hh];rfl)
       exact put κ1 st1 st.h.length st2 q1 q2 (q5 (.jept id s' i off) cx hx) q4 q3 hat (Nat.eq_of_beq_eq_true hoff) (by rw [hc2]; rfl) (by rw [(EI rfl hy).1]) k3 (Aa k4)
      ·split at h
       ·rename_i rr hmt _ _
        obtain ⟨st2,k1,k2⟩:=Ad h;have hr2:=Aa k2;subst hr2;have hss:s'=j.size:=Nat.eq_of_beq_eq_true hss;have hc2:cs=[.ref rr]:=by simpa [V.cells] using hcs.symm
        obtain ⟨j1,u,hh1,hu,hin,gb,cap,cur,ms,hk,hgw,hcur,hone,hput⟩:=AcM hg ht hy k1;rw [hh] at hh1;simp at hh1;subst hh1;have hoff:off=u.off:=by
         rw [hu] at hmt;exact Nat.eq_of_beq_eq_true hmt
        obtain ⟨g2,n2,cap2,ms2,hk2,hcx⟩:=hx;rw [hk] at hk2;obtain ⟨e1,rfl⟩:=AC hk2;simp at e1;obtain ⟨rfl,_⟩:=e1;have hrun':=hok gb (i * j.size+u.off) cur j.e (by rw [hcx,hss,hoff]) hgw (by rw [hc2]; exact hcur);rw [show cy.cells.toList=[cy] by rw [(EI rfl hy).1]] at hrun';obtain ⟨κ2,q1,q2,q3⟩:=hput _ rfl;unfold Oper.wp;rw [hrun'];exact hp κ2 S undef _ q1 q2 rfl q3
       ·split at h
        ·rename_i v hpc hfr hbo
         exact Aae (P:=P) hg ht hx hr h1 hl hok hh hss hpc hfr hbo h hp
        ·cases h
     ·cases h
    ·cases h
   ·split at h
    ·rename_i hh
     split at h
     ·rename_i v hpc hfr hss
      exact Aad (P:=P) hg ht hx hr h1 hl hok hh hss hpc hfr h hp
     ·cases h
    ·cases h
   ·cases h
  ·cases h
 ·cases h
end
end Go.Sy
