/-
  One operation of the evaluator is one operation of the model: all of them. Conditions: the table of types is the program's; callees do what the evaluator is told.
-/
import Derived.Test.YtkbgidbledjejaaGreatSyKa
import Derived.OrdersIn
import Derived.LoopNIn
import Derived.RangeFuncNested
namespace Go.Sy
section
variable {P:Program} {τ:List Ty} (hτ:TabOK P τ) {Γ:Cx0} {S:Nat->Prop} {w:World} {κ:Ai} {st:St} {a:Act} {o:Oper}
 {K:Act->World->Prop} {Q:Exit->Act->World->Prop} {r:V×St}
theorem Ws {size:Nat}:∀ {ps:List (Nat×V)} {cps:List (Nat×Value)} {els:List V} {k:Nat} {arr:Array Value},HC k ps=some els->PartsR S w κ ps cps ->
  Mt size els=true->(k+els.length) * size <= arr.size->∃ arr',Instr.fill (λi=>some (i * size,size)) arr cps=some arr'∧arr'.size=arr.size ∧
   (∀ p,p<k * size->arr'[p]? = arr[p]?) ∧
   (∀ i v,els[i]? = some v->∃ c,VR S w v noK c∧c.cells.size=size∧(∀ u ∈ c.cells.toList,u.oneCell'=true)∧∀ j,j<size->arr'[(k+i) * size+j]? = c.cells[j]?)
 | [],_,els,k,arr,h,hp,_,_=>by
  cases hp;simp [HC] at h;subst h;exact ⟨arr,rfl,rfl,λ_ _=>rfl,λi v hv=>by simp at hv⟩
 | (i0,v)::rest,_,els,k,arr,h,hp,he,hs=>by
   cases hp with
   | cons hv hrest =>
    rename_i c m;simp only [HC] at h;split at h
    ·rename_i vs hi hd
     simp at h;subst h;have hi:i0=k:=Nat.eq_of_beq_eq_true hi;subst hi;simp only [Mt] at he;split at he
     ·rename_i cs hcs
      split at he
      ·rename_i h1 h2
       have h1:cs.length=size:=Nat.eq_of_beq_eq_true h1;obtain ⟨hr,hone⟩:=Cp hcs hv;have hsz:c.cells.size=size:=by rw [<- h1,<- hr.length]; simp
       simp only [List.length_cons] at hs;have hle:i0 * size+c.cells.size <= arr.size:=by
        have:(i0+1) * size <= (i0+(vs.length+1)) * size:=Nat.mul_le_mul_right _ (by omega);rw [Nat.add_mul] at this;omega
       have hf:=Mi (i0 * size) c.cells arr hle;have hget:∀ p,(c.cells.zipIdx.foldl (λcs (cj:Value×Nat)=>cs.setIfInBounds (i0 * size+cj.2) cj.1) arr)[p]? =
         if i0 * size <= p∧p<i0 * size+size then c.cells[p-i0 * size]? else arr[p]?:=by
        intro p;rw [<- Array.getElem?_toList,hf];have:=BE arr.toList c.cells.toList (i0 * size) p (by simpa using hle);simp only [Array.length_toList,hsz,Array.getElem?_toList] at this;rw [hsz];exact this
       have hsz1:(c.cells.zipIdx.foldl (λcs (cj:Value×Nat)=>cs.setIfInBounds (i0 * size+cj.2) cj.1) arr).size=arr.size:=by
        rw [<- Array.length_toList,hf];simp only [List.length_append,List.length_take,List.length_drop,Array.length_toList];omega
       obtain ⟨arr',q1,q2,q3,q4⟩:=Ws (k:=Nat.succ i0) (arr:=c.cells.zipIdx.foldl (λcs (cj:Value×Nat)=>cs.setIfInBounds (i0 * size+cj.2) cj.1) arr) hd hrest he
        (by rw [hsz1,show Nat.succ i0+vs.length=i0+(vs.length+1) by omega]; exact hs)
       refine ⟨arr',?_,by rw [q2,hsz1],?_,?_⟩
       ·have hcond:¬ (c.cells.size ≠ size || decide (i0 * size+c.cells.size > arr.size))=true:=by
         simp [hsz];omega
        simp only [Instr.fill];rw [if_neg hcond];exact q1
       ·intro p hp
        rw [q3 p (by rw [Nat.succ_mul]; omega),hget,if_neg (by omega)]
       ·intro i v' hv'
        cases i with
        | zero =>simp at hv';subst hv';refine ⟨c,FS _ _ h2 hv,hsz,hone,λj hj=>?_⟩;rw [Nat.add_zero,q3 _ (by rw [Nat.succ_mul]; omega),hget,if_pos (by omega)];congr 1;omega
        | succ i =>obtain ⟨c',z1,z2,z3,z4⟩:=q4 i v' (by simpa using hv');refine ⟨c',z1,z2,z3,λj hj=>?_⟩;rw [<- z4 j hj];rw [show i0.succ+i=i0+(i+1) by omega]
      ·cases he
     ·cases he
    ·cases h
theorem Vp:∀ (l:List V) (i:Nat),i<l.length->Sv l i=nth l i
 | [],_,h=>by simp at h
 | [v],i,h=>by
  have:i=0:=by simpa using h
  subst this;rfl
 | v::u::l,0,_=>by
  rw [Sv,Nt]
  ·rfl
  ·simp
 | v::u::l,i+1,h=>by
  rw [Sv,Nt]
  ·show (bif Nat.beq (i+1) 0 then v else Sv (u::l) (i+1-1))=nth (u::l) i
   rw [Nat.add_sub_cancel,Vp (u::l) i (by simpa using h)];rfl
  ·simp
theorem AaF {len:Nat} {els:List V} {i:Nat} (h:i<els.length):Cy len els i=nth els i:=by
 unfold Cy;cases Ad9 len els with
 | false=>rfl
 | true=>exact Vp els i h
theorem SB {κ1:Ai} {st1:St} (hg:Good κ1 S st1.h w) (ht:VRs S w st1.t κ1 a.tmps.toList) {r0:Nat} {c:Value} {e e' s' n:Nat} {g:Nat->V} (hr0:VR S w (.ref r0) κ1 c) (hrow:st1.h[r0]? = some (.row e' s' n g))
  (hrun:(execOp a.eval o).run P w = .ok (.value (.slice (some ⟨w.heap.size,0,none⟩) 1 1)) (w.alloc (.cells #[c] e))) (h:(TX st1 e r0).sem=some r) (hp:F4 a o κ1 S st1 w K r):o.wp P a w K Q:=by
 unfold TX at h;rw [hrow] at h;have:=Aa h;subst this;obtain ⟨hs0,c0,ys,hk,ho,he⟩:=E2 hg hrow;obtain ⟨hk',_⟩:=hr0;rw [hk] at hk';simp at hk';subst hk';have hlen:r0<st1.h.length:=(List.getElem?_eq_some_iff.1 hrow).1;obtain ⟨ac,capc,hsl⟩:=Br ho;have hw:=B7 w (.cells #[c0] e);have hS:∀ b,S b->S b∧(w.alloc (.cells #[c0] e)).heap[b]? = w.heap[b]?:=λb hb=>⟨hb,hw b (hg.out b hb).1⟩;have hrb:∀ k,Ak (some c0)=some k->A3 κ1 st1.h r0 k:=λk hb=>(Aq hrow).2 (by rw [hk]; exact hb);have hnp:Jd (κ1 r0):=λx=>by rw [hk,hsl]; simp
 let kk:Value:=.tuple #[.slice (some ⟨w.heap.size,0,none⟩) 1 1,.agg #[c0]]
 have hself:AZ κ1 st1.h.length kk st1.h.length=some kk:=by simp [AZ]
 have hne:∀ q,q ≠ st1.h.length->AZ κ1 st1.h.length kk q=κ1 q:=λq hq=>by unfold AZ; rw [if_neg hq]
 have hkill:∀ (vs:List V) (l:List Value),VRs S w vs κ1 l->VRs S (w.alloc (.cells #[c0] e)) (kill.kills r0 vs) (AZ κ1 st1.h.length kk) l:=λvs l hv =>
  VR.mono_go (λ_ hb=>⟨hb,rfl⟩) _ _ _ _ (hg.addK_sub kk) (Dm hS hnp (λ_ _=>rfl) vs l hv)
 have hlast:((AU r0 st1.h).set r0 .dead++[.jag ⟨e,1,1,λ_=>.und,0,e',s',λ_=>true,λ_=>n,λ_=>g,none⟩])[st1.h.length]? = some (.jag ⟨e,1,1,λ_=>.und,0,e',s',λ_=>true,λ_=>n,λ_=>g,none⟩):=by
  rw [List.getElem?_append_right (by simp [AI])];simp [AI]
 have hatr:((AU r0 st1.h).set r0 .dead++[.jag ⟨e,1,1,λ_=>.und,0,e',s',λ_=>true,λ_=>n,λ_=>g,none⟩])[r0]? = some .dead:=by
  rw [List.getElem?_append_left (by simp [AI]; exact hlen),List.getElem?_set_self (by simpa [AI] using hlen)]
 have hms:∀ (q:Nat) (m:Value),(#[c0]:Array Value)[q]? = some m->q=0∧m=c0:=λq m hq=>by
  cases q with
  | zero=>simp at hq; exact ⟨rfl,hq.symm⟩
  | succ q=>simp at hq
 have hr:Regroup κ1 st1.h w (AZ κ1 st1.h.length kk) ((AU r0 st1.h).set r0 .dead++[.jag ⟨e,1,1,λ_=>.und,0,e',s',λ_=>true,λ_=>n,λ_=>g,none⟩]) (w.alloc (.cells #[c0] e)) S (λq=>q=r0 ∨ q=st1.h.length) (Fj r0):=by
  refine ⟨λq hq=>?_,Gb r0,λq b _ _ hb hh=>A7.kill hS hkill hb hh,λk hk1 _=>hw k hk1,by simp,λq b hq hb=>?_,λq k hq ho'=>?_,λq q' k hq hq' hne' h1 h2=>?_,λq hq=>?_,λq e s n g hq=>?_,λq b hq hb=>?_⟩
  ·have h1:q ≠ r0:=λe=>hq (.inl e)
   have h2:q ≠ st1.h.length:=λe=>hq (.inr e);refine ⟨?_,hne q h2⟩;rcases Nat.lt_or_ge q st1.h.length with hlt | hge
   ·rw [List.getElem?_append_left (by simp [AI]; exact hlt),List.getElem?_set_ne (Ne.symm h1),CW]
   ·rw [List.getElem?_eq_none (by simp [AI]; omega),List.getElem?_eq_none hge]
    rfl
  ·rcases hq.imp Eq.symm Eq.symm with rfl | rfl
   ·rw [hatr] at hb
    simp only [Option.some.injEq] at hb;subst hb;trivial
   ·rw [hlast] at hb
    simp only [Option.some.injEq] at hb;subst hb;rw [hself];refine ⟨_,_,[c0],rfl,Nat.zero_lt_one,hs0,⟨Nat.zero_lt_one,λq hq=>by cases hq⟩,by simp [mpN],⟨by simp,.inr ⟨w.heap.size,1,#[c0],rfl,Nat.zero_le _,heap_alloc_new w _,Nat.le_refl _,by unfold maxLen; omega,by simp,by simp⟩⟩,λu hu=>?_,λk hkn=>?_,λq m hq=>?_,λq m g2 hq hgm=>?_⟩
    ·simp at hu
     subst hu;rw [hsl];rfl
    ·refine ⟨c0,trivial,by rw [hsl]; rfl,λu hu=>?_,λp hp hpo _=>?_⟩
     ·rw [hsl] at hu
      have hu:u ∈ [Value.slice ac n capc]:=hu;simp only [List.mem_singleton] at hu;subst hu;rfl
     ·have hp:p<1:=hp
      have hpo:p ≠ 0:=hpo;omega
    ·obtain ⟨rfl,rfl⟩:=hms q m hq
     exact .inl ⟨Nat.zero_lt_one,rfl,ys,BQ ho λk hb=>hw k (hg.lt (hrb k hb)),he.mono hS⟩
    ·obtain ⟨rfl,rfl⟩:=hms q m hq
     refine ⟨λe=>?_,λq' m' hne' hq'=>absurd (hms q' m' hq').1 hne'⟩;have:=hg.lt (hrb g2 hgm);simp [Ak] at e;omega
  ·rcases hq.imp Eq.symm Eq.symm with rfl | rfl
   ·rw [Aq hatr] at ho'
    exact ho'.elim
   ·rw [Aq hlast,hself] at ho'
    obtain ⟨c',ms',e2,hkb⟩:=ho';obtain ⟨rfl,rfl⟩:=AC e2;rcases hkb with hkb | ⟨q',m,hq',hkb⟩
    ·simp [Ak] at hkb
     exact .inr (by omega)
    ·obtain ⟨_,rfl⟩:=hms q' m hq'
     exact .inl ⟨r0,.inl rfl,hrb k hkb⟩
  ·rcases hq.imp Eq.symm Eq.symm with rfl | rfl <;> rcases hq'.imp Eq.symm Eq.symm with rfl | rfl
   ·exact hne' rfl
   ·rw [Aq hatr] at h1; exact h1.elim
   ·rw [Aq hatr] at h2; exact h2.elim
   ·exact hne' rfl
  ·simp [AI] at hq
   rw [hne q (by omega)];exact hg.dom q (by omega)
  ·rcases hq.imp Eq.symm Eq.symm with rfl | rfl
   ·rw [hrow]; simp
   ·rw [List.getElem?_eq_none (Nat.le_refl _)]; simp
  ·intro hf
   rcases hq.imp Eq.symm Eq.symm with rfl | rfl
   ·rw [hatr] at hb
    simp only [Option.some.injEq] at hb;subst hb;rcases hf with ⟨_,_,_,_,hf⟩ | ⟨_,hf⟩ <;> cases hf
   ·rw [hlast] at hb
    simp only [Option.some.injEq] at hb;subst hb;exact Bj _ hf
 unfold Oper.wp;rw [hrun];exact hp _ S _ _ (hg.regroup hr) (hkill _ _ ht) ⟨#[c0],hself,_,_,_,rfl⟩ (Ext.regroup hg hr rfl rfl rfl)
theorem Abe {ps:List (Nat×V)} {v:V} (h:HC 0 ps=some [v]):ps=[(0,v)]:=by
 cases ps with
 | nil=>simp [HC] at h
 | cons p l =>
  obtain ⟨i,u⟩:=p;simp only [HC] at h;split at h
  ·rename_i vs hi hd
   simp at h;obtain ⟨rfl,rfl⟩:=h;have hi:i=0:=Nat.eq_of_beq_eq_true hi;subst hi;cases l with
   | nil=>rfl
   | cons q l =>
    obtain ⟨j,u2⟩:=q;simp only [HC] at hd;split at hd
    ·simp at hd
    ·cases hd
  ·cases h
include hτ in
theorem Tb (hE:CC Γ S w) (ht:VRs S w st.t κ a.tmps.toList) {t len e:Nat} {parts:Array (Nat×Operand)} {ts te:Ty} {els zc:List V} (ho:o.op = .buildSlice t len parts)
  (hts:τ[t]? = some ts) (hkk:ts.k = .sl e) (hte:τ[e]? = some te) (hels:HC 0 (evs Γ st parts.toList)=some els) (e1:Mt te.size els=true) (e2:Nat.beq els.length len=true)
  (e3:Nat.ble (Nat.mul len te.size) 16777216=true) (e4:Nat.blt 0 te.size=true) (hzc:te.zero.cells=some zc) (e5:Nat.beq zc.length te.size=true) :
  ∃ arr',(∀ u,(execOp a.eval o).run P u = .ok (.value (.slice (some ⟨u.heap.size,0,none⟩) len len)) (u.alloc (.cells arr' e))) ∧
   ∀ g w' κ',w'.heap[g]? = some (.cells arr' e)->(∀ b,S b->S b∧w'.heap[b]? = w.heap[b]?)->A7 S w' κ' (some (.slice (some ⟨g,0,none⟩) len len)) (.row e te.size len (Cy len els)):=by
 have hrun:∀ u,(execOp a.eval o).run P u=((Instr.buildSlice t len (parts.map λ(i,x)=>(i,a.eval x))).run P u).andThen λv w'=>.ok (.value v) w':=λu=>by
  unfold execOp;simp only [ho,Sem.run_bind,Sem.run_pure]
 obtain ⟨_,d,_,hd,hk,_⟩:=hτ.info hts;rw [hkk] at hk;have:=Ee hk.symm;subst this;obtain ⟨i,_,hi,_,_,hs,_,hz,_⟩:=hτ.info hte;have e2:els.length=len:=Nat.eq_of_beq_eq_true e2;have e3:len * te.size <= 16777216:=by simpa using e3
 have e4:0<te.size:=by simpa using e4
 have e5:zc.length=te.size:=Nat.eq_of_beq_eq_true e5;obtain ⟨z,hzi,hzz⟩:∃ z,i.zero=some z∧te.zero=ofValue z:=by
  cases hzz:i.zero with
  | none=>rw [hzz] at hz; rw [hz] at hzc; simp [V.cells] at hzc
  | some z=>rw [hzz] at hz; exact ⟨z,rfl,hz⟩
 have hpr:PartsR S w κ (evs Γ st parts.toList) (parts.map λ(i,x)=>(i,a.eval x)).toList:=by
  have:=N6 hE ht parts.toList;simpa using this
 obtain ⟨zs,hzs,hrun0⟩:∃ zs:Array Value,zs.size=len * te.size∧∀ arr' u,Instr.fill (λi=>some (i * te.size,te.size)) zs (parts.map λ(i,x)=>(i,a.eval x)).toList=some arr' ->
   (Instr.buildSlice t len (parts.map λ(i,x)=>(i,a.eval x))).run P u = .ok (.slice (some ⟨u.heap.size,0,none⟩) len len) (u.alloc (.cells arr' e)):=by
  by_cases h0:len * te.size=0
  ·refine ⟨(Array.range (len * te.size)).map λj=>(#[]:Array Value)[j % (#[]:Array Value).size]!,by simp,λarr' u hf=>?_⟩
   rw [hs] at h0 hf e3;simp only [Instr.buildSlice,Sem.run_bind,run_underlying hd,Result.andThen_ok,AS hi];rw [if_neg (by omega)];simp only [Sem.run_bind,Sem.run_pure,Result.andThen_ok,if_pos h0,hf,newRow,run_newObj];rfl
  ·refine ⟨(Array.range (len * te.size)).map λj=>z.cells[j % z.cells.size]!,by simp,λarr' u hf=>?_⟩
   rw [hs] at h0 hf e3;simp only [Instr.buildSlice,Sem.run_bind,run_underlying hd,Result.andThen_ok,AS hi];rw [if_neg (by omega)];simp only [Sem.run_bind,Sem.run_pure,Result.andThen_ok,if_neg h0,zeroValue,typeInfo,run_program,hi,hzi,hf,newRow,run_newObj];rfl
 obtain ⟨arr',q1,q2,_,q4⟩:=Ws (k:=0) (arr:=zs) hels hpr e1 (by rw [hzs,e2]; simp);refine ⟨arr',λu=>by rw [hrun,hrun0 arr' u q1]; rfl,λg w' κ' hg hS=>⟨e4,_,arr'.toList,rfl,⟨by simp [q2,hzs],.inr ⟨g,len,arr',rfl,Nat.zero_le _,hg,Nat.le_refl _,?_,by rw [q2,hzs],?_⟩⟩,?_⟩⟩
 ·have:len * 1 <= len * te.size:=Nat.mul_le_mul_left _ e4
  unfold maxLen;omega
 ·rw [List.take_of_length_le]
  simp [q2,hzs]
 ·intro k hkn
  have hkl:k<els.length:=by rw [e2]; exact hkn
  obtain ⟨c,z1,z2,z3,z4⟩:=q4 k els[k] (by simp [hkl]);refine ⟨c,?_,z2,z3,λj hj=>?_⟩
  ·have:Cy len els k=els[k]:=by rw [AaF hkl,KL]; simp [hkl]
   show VR S _ (Cy len els k) noK c;rw [this];exact VR.mono hS _ _ _ _ (λ_ _ h=>h) z1
  ·have:=z4 j hj
   rw [Nat.zero_add] at this;rw [Array.getElem?_toList];exact this
include hτ in
theorem RL (hg:Good κ S st.h w) (hE:CC Γ S w) (ht:VRs S w st.t κ a.tmps.toList) {t len:Nat} {parts:Array (Nat×Operand)} (ho:o.op = .buildSlice t len parts)
  (h:(step τ Γ o st).sem=some r) (hp:F4 a o κ S st w K r):o.wp P a w K Q:=by
 have hrun:(execOp a.eval o).run P w=((Instr.buildSlice t len (parts.map λ(i,x)=>(i,a.eval x))).run P w).andThen λv w'=>.ok (.value v) w':=by
  unfold execOp;simp only [ho,Sem.run_bind,Sem.run_pure]
 unfold step at h;simp only [ho] at h;split at h
 ·rename_i ts hts
  obtain ⟨_,d,_,hd,hk,_⟩:=hτ.info hts;split at h
  ·rename_i e hkk
   split at h
   ·rename_i te hte
    obtain ⟨i,_,hi,_,_,hs,_,hz,_⟩:=hτ.info hte;split at h
    ·rename_i els hels
     split at h
     ·rename_i zc e1 e2 e3 e4 hzc
      split at h
      ·rename_i e5
       obtain ⟨arr',q1,q2⟩:=Tb (P:=P) hτ hE ht ho hts hkk hte hels e1 e2 e3 e4 hzc e5;exact Ni (v:=V.ref) hg ht (q1 w) (B7 w _) (by simp) rfl rfl rfl (q2 _ _ _ (heap_alloc_new w _) λb hb=>⟨hb,B7 w _ b (hg.out b hb).1⟩) (.inr rfl) ⟨by simp [AZ],.inl ⟨_,_,_,rfl⟩⟩ h hp
      ·cases h
     ·rw [hkk] at hk
      have:=Ee hk.symm;subst this;have hpr:PartsR S w κ (evs Γ st parts.toList) (parts.map λ(i,x)=>(i,a.eval x)).toList:=by
       have:=N6 hE ht parts.toList;simpa using this
      have one:∀ (v z0:V),te.size=1->len=1->te.zero.cells=some [z0]->els=[v]->∃ c,VR S w v κ c∧(c.cells=#[c]->(execOp a.eval o).run P w = .ok (.value (.slice (some ⟨w.heap.size,0,none⟩) 1 1)) (w.alloc (.cells #[c] e))):=by
       intro v z0 hs1 hl1 hz0 hv1;subst hv1;have hps:=Abe hels;rw [hps] at hpr;obtain ⟨c,hcp,hvc⟩:∃ c,(parts.map λ(i,x)=>(i,a.eval x)).toList=[(0,c)]∧VR S w v κ c:=by
        generalize (parts.map λ(i,x)=>(i,a.eval x)).toList=cps at hpr;cases hpr with
        | cons hv hrest =>cases hrest;exact ⟨_,rfl,hv⟩
       refine ⟨c,hvc,λhcc=>?_⟩;obtain ⟨z,hzi,hzl⟩:∃ z,i.zero=some z∧z.cells.size=1:=by
        cases hzz:i.zero with
        | none=>rw [hzz] at hz; rw [hz] at hz0; simp [V.cells] at hz0
        | some z =>rw [hzz] at hz;have hz:te.zero=ofValue z:=hz;have:=(Cp (S:=S) (w:=w) (κ:=noK) hz0 (by rw [hz]; exact C4 z)).1.length;exact ⟨z,rfl,by simpa using this⟩
       have his:i.size=1:=by rw [<- hs,hs1]
       have hfill:Instr.fill (λq=>some (q * 1,1)) ((Array.range (1 * 1)).map λj=>z.cells[j % z.cells.size]!) [(0,c)]=some #[c]:=by
        have hZ:((Array.range (1 * 1)).map λj=>z.cells[j % z.cells.size]!)=#[z.cells[0 % z.cells.size]!]:=by
         apply Array.ext
         ·simp
         ·intro q h1 h2
          have:q=0:=by simpa using h2
          subst this;simp
        rw [hZ];simp [Instr.fill,hcc]
       rw [hrun];simp only [Instr.buildSlice,Sem.run_bind,run_underlying hd,Result.andThen_ok,AS hi,hl1,his,zeroValue,typeInfo,run_program,hi,hzi,hcp,Sem.run_pure];rw [if_neg (by decide),if_neg (by decide)];simp only [Sem.run_bind,Sem.run_pure,Result.andThen_ok,zeroValue,typeInfo,run_program,hi,hzi,hfill,newRow,run_newObj];rfl
      unfold Ys at h;split at h
      ·rename_i e2 off e' s' z0 rr hk2 hsl hs1 hl1 hz0 _
       have hs1:=Nat.eq_of_beq_eq_true hs1;have hl1:=Nat.eq_of_beq_eq_true hl1;obtain ⟨c,hvc,hrun1⟩:=one _ _ hs1 hl1 hz0 rfl;split at h
       ·rename_i e3 s3 n3 g3 hrow
        split at h
        ·rename_i q1 q2
         exact SB (P:=P) hg ht hvc hrow (hrun1 (EI rfl hvc).1) h hp
        ·cases h
       ·cases h
      ·rename_i e2 off e' s' z0 id2 i2 hk2 hsl hs1 hl1 hz0 _
       have hs1:=Nat.eq_of_beq_eq_true hs1;have hl1:=Nat.eq_of_beq_eq_true hl1;obtain ⟨c,hvc,hrun1⟩:=one _ _ hs1 hl1 hz0 rfl;obtain ⟨st1,k1,k2⟩:=Ad h;obtain ⟨κ1,j2,_,_,hlast,z1,z2,z3,z4,_⟩:=Iu hg ht hvc k1;split at k2
       ·rename_i e3 s3 n3 g3 hrow
        split at k2
        ·rename_i q1 q2
         exact SB (P:=P) z1 z2 z4 hrow (hrun1 (EI rfl hvc).1) k2 (hp.ext z3)
        ·cases k2
       ·cases k2
      ·cases h
    ·cases h
   ·cases h
  ·cases h
 ·cases h
include hτ in
theorem Pv (hΓ:Bb P Γ) (hg:Good κ S st.h w) (hE:CC Γ S w) (ht:VRs S w st.t κ a.tmps.toList) {v:V}
  (h:(Gv τ Γ o st).sem=some v) (hp:Afa a o κ S st.h w K st.h v):o.wp P a w K Q:=by
 have same:HE P a o S w κ v->o.wp P a w K Q:=λhs=>Xe hg hs hp;have value:∀ c,(execOp a.eval o).run P w = .ok (.value c) w->VR S w v κ c->o.wp P a w K Q:=λc h1 h2=>same ⟨c,h1,h2⟩;unfold Gv at h;split at h
 ·rename_i x ho
  split at h
  ·cases h
  ·rw [Aa h] at value
   exact value _ (by unfold execOp; simp only [ho]; rfl) (AT hE ht x)
 ·rename_i x ho
  split at h
  ·cases h
  ·rw [Aa h] at value
   exact value _ (by unfold execOp; simp only [ho]; rfl) (AT hE ht x)
 ·rename_i c x y ho
  have hc:=AT hE ht c;split at h
  ·rename_i b hb
   rw [hb] at hc;have hc:=Bl hc;have hrun:∀ u:Value,(if b then a.eval x else a.eval y)=u->(execOp a.eval o).run P w = .ok (.value u) w:=by
    intro u hu;unfold execOp;simp only [ho,hc,asBool,Sem.run_bind,Sem.run_pure,Result.andThen_ok,hu]
   cases b
   ·have:v=ev Γ st y:=Aa h
    subst this;exact value _ (hrun _ rfl) (AT hE ht y)
   ·have:v=ev Γ st x:=Aa h
    subst this;exact value _ (hrun _ rfl) (AT hE ht x)
  ·cases h
 ·rename_i t parts ho
  have hpr:PartsR S w κ (evs Γ st parts.toList) (parts.map λ(i,x)=>(i,a.eval x)).toList:=by
   have:=N6 hE ht parts.toList;simpa using this
  obtain ⟨c,h2,h3⟩:=QV (P:=P) hτ (Df h) hpr;refine value c ?_ h3;unfold execOp;simp only [ho,Sem.run_bind,h2,Result.andThen_ok,Sem.run_pure]
 ·rename_i t x ho
  obtain ⟨c,h2,h3⟩:=Zc (P:=P) hτ hg (AT hE ht x) h;refine value c ?_ h3;unfold execOp;simp only [ho,Sem.run_bind,h2,Result.andThen_ok,Sem.run_pure]
 ·rename_i x ho
  have hx:=AT hE ht x;split at h
  ·rename_i id off hv
   rw [hv] at hx;have hx':=hx;obtain ⟨g,_,hcx⟩:=hx';rw [Aa h] at value;exact value _ (by unfold execOp; simp only [ho,hcx]; rfl) (by rw [<- hcx]; exact hx)
  ·rename_i id s i off hv
   rw [hv] at hx;have hx':=hx;obtain ⟨g,n,cap,_,hcx⟩:=hx';rw [Aa h] at value;exact value _ (by unfold execOp; simp only [ho,hcx]; rfl) (by rw [<- hcx]; exact hx)
  ·rename_i id s i off hv
   rw [hv] at hx;have hx':=hx;obtain ⟨g,n,cap,ms,_,hcx⟩:=hx';rw [Aa h] at value;exact value _ (by unfold execOp; simp only [ho,hcx]; rfl) (by rw [<- hcx]; exact hx)
  ·rename_i id i s k off hv
   rw [hv] at hx;have hx':=hx;obtain ⟨o2,ms,g,n,cap,_,_,hcx⟩:=hx';rw [Aa h] at value;exact value _ (by unfold execOp; simp only [ho,hcx]; rfl) (by rw [<- hcx]; exact hx)
  ·rename_i u hv
   rw [hv] at hx;have hx':=hx;obtain ⟨b,o',cv,hcx,_⟩:=hx';rw [Aa h] at value;exact value _ (by unfold execOp; simp only [ho,hcx]; rfl) (by rw [<- hcx]; exact hx)
  ·rename_i f cs hv
   rw [hv] at hx;have hx':=hx;obtain ⟨ca,hcx,_⟩:=hx';rw [Aa h] at value;exact value _ (by unfold execOp; simp only [ho,hcx]; rfl) (by rw [<- hcx]; exact hx)
  ·cases h
 ·rename_i op t x y yt ho
  obtain ⟨c,h2,h3⟩:=ZL (P:=P) hτ hg h (AT hE ht x) (AT hE ht y) x y;refine value c ?_ h3;unfold execOp;simp only [ho];rw [Sem.run_bind,h2];rfl
 ·rename_i op t x ho
  obtain ⟨c,h2,h3⟩:=AbK (P:=P) h (AT hE ht x);refine value c ?_ h3;unfold execOp;simp only [ho,Sem.run_bind,h2,Result.andThen_ok,Sem.run_pure]
 ·rename_i src dst x ho
  obtain ⟨c,h2,h3⟩:=Ae6 (P:=P) hτ hg h (AT hE ht x);refine value c ?_ h3;unfold execOp;simp only [ho,Sem.run_bind,h2,Result.andThen_ok,Sem.run_pure]
 ·rename_i f first captured ho
  split at h
  ·rename_i hf
   have hf:first=#[]:=Array.eq_empty_of_size_eq_zero (Nat.eq_of_beq_eq_true hf)
   have:=Fv hE ht captured.toList;rw [Aa h] at value;refine value (.func (.func f) #[] (captured.map a.eval)) ?_ ⟨captured.toList.map a.eval,by congr 1; apply Array.ext'; simp,this⟩;unfold execOp;simp only [ho,Instr.makeFunc,hf,Sem.run_bind,Sem.run_pure,Result.andThen_ok,Array.map_empty]
  ·cases h
 ·rename_i t x lo hi ho
  exact same (Aco (P:=P) (a:=a) (o:=o) (clo:=lo.map a.eval) (chi:=hi.map a.eval) hτ hg (AT hE ht x)
   (λv hv=>by
    cases lo with
    | none=>cases hv
    | some l=>cases hv; exact ⟨_,rfl,AT hE ht l⟩)
   (λhv=>by cases lo with | none=>rfl | some l=>cases hv)
   (λv hv=>by
    cases hi with
    | none=>cases hv
    | some l=>cases hv; exact ⟨_,rfl,AT hE ht l⟩)
   (λhv=>by cases hi with | none=>rfl | some l=>cases hv)
   (by unfold execOp; simp only [ho,Sem.run_bind,Sem.run_pure,Option.map_none]) h)
 ·rename_i s x f ho
  exact same (Mn (P:=P) hτ (AT hE ht x) (by unfold execOp; simp only [ho,Sem.run_bind,Sem.run_pure]) h)
 ·rename_i s x f ho
  exact same (Aeg (P:=P) hτ (AT hE ht x) (by unfold execOp; simp only [ho,Sem.run_bind,Sem.run_pure]) h)
 ·rename_i t x ix ho
  exact same (Ma (P:=P) hτ hg (AT hE ht x) (AT hE ht ix) (by unfold execOp; simp only [ho,Sem.run_bind,Sem.run_pure]) h)
 ·rename_i t m x ho
  exact same (AaE (P:=P) hτ hg (AT hE ht m) (AT hE ht x) (by unfold execOp; simp only [ho,Sem.run_bind,Sem.run_pure]) h)
 ·rename_i t m x ho
  exact same (XB (P:=P) hτ hg (AT hE ht m) (AT hE ht x) (by unfold execOp; simp only [ho,Sem.run_bind,Sem.run_pure]) h)
 ·rename_i t x ix ho
  exact same (AdS (P:=P) hτ (AT hE ht x) (AT hE ht ix) (by unfold execOp; simp only [ho,Sem.run_bind,Sem.run_pure]) h)
 ·rename_i x i ho
  have hx:=AT hE ht x;split at h
  ·rename_i vs hv
   rw [hv] at hx;obtain ⟨ca,hcx,hvs⟩:=hx;obtain ⟨c,h2,h3⟩:=VRs.get hvs (Df h);refine value c ?_ h3;unfold execOp;simp only [ho,hcx,Instr.extract,List.getElem?_toArray,h2,Sem.run_bind,Sem.run_pure,Result.andThen_ok]
  ·cases h
 ·rename_i c ho
  split at h
  ·rename_i f hc
   split at h
   ·rename_i g caps hf
    obtain ⟨⟨v',h'⟩,h1,h2⟩:=Ad h;have hh':h' = .more []∧v=v':=by
     cases h' with
     | more l =>
      cases l with
      | nil=>exact ⟨rfl,Aa h2⟩
      | cons _ _=>cases h2
     | all _=>cases h2
    obtain ⟨rfl,rfl⟩:=hh';exact U8 hΓ hg hE ht ho hc hf h1 λκ' S' c' w' q1 q2 q3 q4=>hp κ' S' c' w' q1 q2 q3 q4.1
   ·cases h
  ·rename_i hc
   split at h
   ·rename_i x t hargs htys
    have hav:=Fv hE ht c.args.toList;rw [hargs] at hav;obtain ⟨cx,l',hl,hcx,hl'⟩:=hav;have hl':l'=[]:=hl';subst hl';obtain ⟨cv,h2,h3⟩:=AdA (P:=P) hτ hg hcx h o.type;refine value cv ?_ h3;have hca:c.args.map a.eval=#[cx]:=by apply Array.ext'; simpa using hl
    have hct:c.argTypes=#[t]:=by apply Array.ext'; simpa using htys
    unfold execOp;simp only [ho,resolve,hc,Sem.run_bind,Sem.run_pure,Result.andThen_ok,invoke,builtin,hca,hct,h2]
   ·cases h
  ·rename_i hc
   split at h
   ·rename_i k x k' y hargs
    have hav:=Fv hE ht c.args.toList;rw [hargs] at hav;obtain ⟨cx,l',hl,hcx,cy,l'',hl2,hcy,hl3⟩:=hav;have hl3:l''=[]:=hl3;subst hl3;subst hl2;have hca:c.args.map a.eval=#[.int k x,.int k' y]:=by
     apply Array.ext';rw [<- Bl hcx,<- Bl hcy];simpa using hl
    rw [Aa h] at value;refine value (.int k (if y<x then y else x)) ?_ ?_
    ·unfold execOp
     simp only [ho,resolve,hc,Sem.run_bind,Sem.run_pure,Result.andThen_ok,invoke,builtin,hca,Builtin.min_,List.foldlM_cons,List.foldlM_nil,Builtin.min2]
    ·show _=_
     simp only [sel,ilt,Bool.cond_decide]
   ·rename_i k x k' y k'' z hargs
    have hav:=Fv hE ht c.args.toList;rw [hargs] at hav;obtain ⟨cx,l',hl,hcx,cy,l'',hl2,hcy,cz,l3,hl3,hcz,hl4⟩:=hav;have hl4:l3=[]:=hl4;subst hl4;subst hl3;subst hl2;have hca:c.args.map a.eval=#[.int k x,.int k' y,.int k'' z]:=by
     apply Array.ext';rw [<- Bl hcx,<- Bl hcy,<- Bl hcz];simpa using hl
    rw [Aa h] at value;refine value (.int k (if z<(if y<x then y else x) then z else (if y<x then y else x))) ?_ ?_
    ·unfold execOp
     simp only [ho,resolve,hc,Sem.run_bind,Sem.run_pure,Result.andThen_ok,invoke,builtin,hca,Builtin.min_,List.foldlM_cons,List.foldlM_nil,Builtin.min2]
    ·show _=_
     simp only [sel,ilt,Bool.cond_decide]
   ·cases h
  ·rename_i hc
   split at h
   ·rename_i k x k' y hargs
    have hav:=Fv hE ht c.args.toList;rw [hargs] at hav;obtain ⟨cx,l',hl,hcx,cy,l'',hl2,hcy,hl3⟩:=hav;have hl3:l''=[]:=hl3;subst hl3;subst hl2;have hca:c.args.map a.eval=#[.int k x,.int k' y]:=by
     apply Array.ext';rw [<- Bl hcx,<- Bl hcy];simpa using hl
    rw [Aa h] at value;refine value (.int k (if x<y then y else x)) ?_ ?_
    ·unfold execOp
     simp only [ho,resolve,hc,Sem.run_bind,Sem.run_pure,Result.andThen_ok,invoke,builtin,hca,Builtin.max_,List.foldlM_cons,List.foldlM_nil,Builtin.max2]
    ·show _=_
     simp only [sel,ilt,Bool.cond_decide]
   ·cases h
  ·cases h
 ·cases h
theorem R7 (hg:Good κ S st.h w) (ht:VRs S w st.t κ a.tmps.toList) {v:V} {h':List Blk} (hp:F4 a o κ S st w K (v,⟨st.t,h'⟩)):Afa a o κ S st.h w K h' v:=by
 intro κ' S' c w' q1 q2 q3 q4;exact hp κ' S' c w' q1 (VR.mono_go (q3.pers hg) _ _ _ _ q4 ht) q2 q3
include hτ in
theorem Lx (hΓ:Bb P Γ) (hg:Good κ S st.h w) (hE:CC Γ S w) (ht:VRs S w st.t κ a.tmps.toList)
  (h:(step τ Γ o st).sem=some r) (hp:F4 a o κ S st w K r):o.wp P a w K Q:=by
 have hs:=h;have quiet:(keep st (Gv τ Γ o st)).sem=some r->o.wp P a w K Q:=λhk=>by
  obtain ⟨v,h1,hr⟩:=Acr hk;subst hr;exact Pv (P:=P) hτ hΓ hg hE ht h1 (R7 hg ht hp)
 unfold step at h;split at h
 ·rename_i x ho
  exact YU hg ht (AT hE ht x) (by unfold execOp; simp only [ho]; rfl) h hp
 ·rename_i x ho
  exact YU hg ht (AT hE ht x) (by unfold execOp; simp only [ho]; rfl) h hp
 ·rename_i t ho
  split at h
  ·rename_i ty hty
   obtain ⟨i,_,hi,_,_,_,_,hz,_⟩:=hτ.info hty;split at h
   ·rename_i cs hcs
    obtain ⟨z,hzi,hzz⟩:∃ z,i.zero=some z∧ty.zero=ofValue z:=by
     cases hzz:i.zero with
     | none=>rw [hzz] at hz; rw [hz] at hcs; simp [V.cells] at hcs
     | some z=>rw [hzz] at hz; exact ⟨z,rfl,hz⟩
    have hrun:(execOp a.eval o).run P w = .ok (.value (.pointer (some ⟨w.heap.size,0,none⟩))) (w.alloc (.cells z.cells t)):=by
     unfold execOp;simp only [ho,Instr.alloc,Sem.run_bind,zeroValue,typeInfo,run_program,Result.andThen_ok,hi,Sem.run_pure,hzi,newVar,newRow,run_newObj];rfl
    split at h
    ·rename_i n hn
     unfold Yv at hn;split at hn
     ·split at hn
      ·rename_i _ hle hf
       simp only [Option.some.injEq] at hn;subst hn;exact Adb (t:=t) hg ht (x:=ty.zero) (cx:=z) (by rw [hzz]; exact C4 z) hcs (Nat.le_of_ble_eq_true hle) (z:=bV false) (zc:=.bool false) (λ_ _ _=>rfl) rfl rfl (λca hc=>Ol _ cs ca hf hc) hrun h hp
      ·rename_i _ hle _
       split at hn
       ·rename_i hf
        simp only [Option.some.injEq] at hn;subst hn;exact Adb (t:=t) hg ht (x:=ty.zero) (cx:=z) (by rw [hzz]; exact C4 z) hcs (Nat.le_of_ble_eq_true hle) (z:=iV 0) (zc:=.int .i64 0) (λ_ _ _=>rfl) rfl rfl (λca hc=>OV _ cs ca hf hc) hrun h hp
       ·cases hn
      ·cases hn
     ·cases hn
    ·exact AcZ (t:=t) hg ht (x:=ty.zero) (cx:=z) (by rw [hzz]; exact C4 z) hcs hrun h hp
   ·cases h
  ·cases h
 ·rename_i t x ho
  obtain ⟨⟨v,st1⟩,h1,h2⟩:=Ad h;obtain ⟨κ1,g1,g2⟩:=AbJ hg ht (AT hE ht x) h1;split at h2
  ·rename_i cs hcs
   refine AcZ (t:=t) g1.1 g1.2.1 g2 hcs ?_ h2 (hp.ext g1.2.2.1);unfold execOp;simp only [ho,Instr.box,Sem.run_bind,newVar,newRow,run_newObj,Result.andThen_ok,Sem.run_pure];rfl
  ·cases h2
 ·rename_i t len parts ho
  exact RL (P:=P) hτ hg hE ht ho hs hp
 ·rename_i t x y ho
  split at h
  ·rename_i id off hx
   have hxp:VR S w (.ptr id off) κ (a.eval x):=by rw [<- hx]; exact AT hE ht x
   split at h
   ·rename_i r k hy
    have hyr:=AT hE ht y;rw [hy] at hyr;split at h
    ·rename_i e s n g hh
     obtain ⟨κ1,q1,q2,q3,q4,q5⟩:=cut_ok hg ht hh hyr;exact Pr (P:=P) (st:=⟨kill.kills r st.t,(AU r st.h).set r (.row e s k g)⟩) hτ q1 q2 (q5 _ _ _ hxp) q4 (by unfold execOp; simp only [ho,Sem.run_bind,Sem.run_pure]) h (hp.ext q3)
    ·cases h
   obtain ⟨⟨v,st1⟩,h1,h2⟩:=Ad h;obtain ⟨κ1,g1,g2⟩:=AbJ hg ht (AT hE ht y) h1;exact Pr (P:=P) (st:=st1) hτ g1.1 g1.2.1 (by rw [<- hx]; exact g1.vr (AT hE ht x)) g2 (by unfold execOp; simp only [ho,Sem.run_bind,Sem.run_pure]) h2 (hp.ext g1.2.2.1)
  ·exact Pr (P:=P) hτ hg ht (AT hE ht x) (AT hE ht y) (by unfold execOp; simp only [ho,Sem.run_bind,Sem.run_pure]) h hp
 ·rename_i t l c ho
  exact Ag7 (P:=P) hτ hg ht (AT hE ht l) (AT hE ht c) (by unfold execOp; simp only [ho,Sem.run_bind,Sem.run_pure]) h hp
 ·rename_i t ho
  exact X4 (P:=P) hτ hg ht (by unfold execOp; simp only [ho,Sem.run_bind,Sem.run_pure,Option.map_none]) h hp
 ·rename_i t m x y ho
  exact S9 (P:=P) hτ hg ht (AT hE ht m) (AT hE ht x) (AT hE ht y) (by unfold execOp; simp only [ho,Sem.run_bind,Sem.run_pure]) h hp
 ·rename_i t m x y ho
  exact S9 (P:=P) hτ hg ht (AT hE ht m) (AT hE ht x) (AT hE ht y) (by unfold execOp; simp only [ho,Sem.run_bind,Sem.run_pure]) h hp
 ·rename_i c ho
  split at h
  ·unfold Acl at h
   split at h
   ·rename_i f hc
    split at h
    ·rename_i g caps hf
     obtain ⟨⟨v,h'⟩,h1,h2⟩:=Ad h;have hr:=Aa h2;subst hr;refine U8 hΓ hg hE ht ho hc hf h1 λκ' S' c' w' q1 q2 q3 q4=>?_;cases h' with
     | more l=>exact hp κ' S' c' w' q1 (VR.mono_go (q3.pers hg) _ _ _ _ q4.1 ht) q2 q3
     | all st'=>exact hp κ' S' c' w' q1 q4 q2 q3
    ·cases h
   ·rename_i hc
    split at h
    ·rename_i x y t t' hargs htys
     split at h
     ·rename_i htt
      have htt:t=t':=Nat.eq_of_beq_eq_true htt;subst htt;have hav:=Fv hE ht c.args.toList;rw [hargs] at hav;obtain ⟨cx,l',hl,hcx,cy,l'',hl2,hcy,hl3⟩:=hav;have hl3:l''=[]:=hl3;subst hl3;subst hl2;have hca:c.args.map a.eval=#[cx,cy]:=by apply Array.ext'; simpa using hl
      have hct:c.argTypes=#[t,t]:=by apply Array.ext'; simpa using htys
      refine Abl (P:=P) hτ hg ht hcx hcy ?_ h hp;unfold execOp;simp only [ho,resolve,hc,Sem.run_bind,Sem.run_pure,Result.andThen_ok,invoke,builtin,hca,hct]
     ·cases h
    ·cases h
   ·cases h
  ·exact quiet h
 ·exact quiet h
end
end Go.Sy
namespace Go.Sy
def Ez (ro:Option Nat):Fence:={ Fence.wide with round:=ro }
theorem Aey {ro:Option Nat} {p:Prop} (h:(Ez ro).depth.isSome=true):p:=by simp [Ez,Fence.wide] at h
def Gm (o:Oper):Bool:=match o.op with
 | .defer _=>false
 | _=>true
def DZ:Code->Bool
 | .region _ ops _=>ops.all Gm
 | .seq a b=>DZ a && DZ b
 | .cond _ a b=>DZ a && DZ b
 | .block _ c=>DZ c
 | .loop c=>DZ c
 | .scope c=>DZ c
 | .rangeFunc _ _ a b=>DZ a && DZ b
 | _=>true
section
variable {P:Program} {ro:Option Nat} {o:Oper} {a:Act} {w:World} {K:Act->World->Prop} {Q:Exit->Act->World->Prop} {ops:Array Oper}
theorem AeF {f:FuncId} {args:Array Value} {R:Ending->World->Prop} (h:Calls P f args w R):CallsIn (Ez ro) 0 P f args w R:=callsIn_wide (n:=0).2 h
theorem Amp {row:String} {args:Array Value} {R:Value->World->Prop} (h:Rows P row args w R):RowsIn (Ez ro) 0 P row args w R:=λc cs _=>by
 obtain ⟨v,w',r,s⟩:=h c cs;exact ⟨v,w',r,(stepsIn_wide (P:=P)).2 s⟩
theorem Amj (hd:ro=none ∨ Gm o=true):o.semAt (Ez ro).round a.eval=execOp a.eval o:=by
 rcases hd with rfl | hd
 ·exact Oper.semAt_none _ _
 ·refine Oper.semAt_eq _ _ _ λc hc=>?_
  unfold Gm at hd;rw [hc] at hd;cases hd
theorem HK (hd:ro=none ∨ Gm o=true) (h:o.wp P a w K Q):o.wpIn (Ez ro) 0 P a w K Q:=by
 refine ⟨λ_ _=>trivial,?_⟩;rw [Amj hd];unfold Oper.wp at h;generalize (execOp a.eval o).run P w=r at h ⊢;cases r with
 | ok n w' =>
  cases n <;> simp only [Oper.upon] at h <;> simp only [Oper.uponIn] <;>
   first
    | exact h
    | exact ⟨Aey,AeF h⟩
    | exact ⟨Aey,Amp h⟩
    | exact h.elim
 | halt x w'=>cases x <;> simp only [Oper.upon] at h <;> simp only [Oper.uponIn] <;> exact h
theorem Als {i:Nat} (hd:ro=none ∨ ops.all Gm=true) (h:wpOp P ops Q i K a w) (hq:¬ LetsOut Q):wpOpIn (Ez ro) 0 P ops Q i K a w:=by
 unfold wpOp at h;unfold wpOpIn;split
 ·simpa [*] using h
 ·rename_i o ho
  simp only [ho] at h;split
  ·rename_i hw
   simp only [hw,if_true] at h;refine HK (hd.imp id λhd=>?_) (h.resolve_right λh=>hq h.2);exact Array.all_eq_true_iff_forall_mem.1 hd o (Array.mem_of_getElem? ho)
  ·rename_i hw
   simp only [hw] at h;exact ⟨λ_ _=>trivial,h⟩
theorem Tn {md:Region.Mode} (hd:ro=none ∨ ops.all Gm=true) (hq:¬ LetsOut Q):∀ (fuel:Nat) (listed:Array Bool) (a:Act) (w:World),wpAny P md ops Q fuel listed a w->wpAnyIn (Ez ro) 0 P md ops Q fuel listed a w
 | 0,_,_,_,h=>h
 | fuel+1,_,_,_,h=>⟨h.1,λi hi=>wpOpIn_mono (λa w h=>Tn hd hq fuel _ a w h) (Als hd (h.2 i hi) hq)⟩
end
end Go.Sy
