/-
  Regions: in the order of the text, and in whatever order the model draws. Conditions: the table of types is the program's; callees do what the evaluator is told.
-/
import Derived.Test.YtkbgidbledjejaaGreatSyLa
import Derived.Orders
namespace Go.Sy
structure Rel (dl:List Deferred) (Γ:Cx0) (κ:Ai) (S:Nat->Prop) (st:St) (a:Act) (w:World):Prop where
 good:Good κ S st.h w
 env:CC Γ S w
 tmps:VRs S w st.t κ a.tmps.toList
 defers:a.defers=dl
section
variable {dl:List Deferred} {ro:Option Nat}
variable {P:Program} {τ:List Ty} (hτ:TabOK P τ) {Γ:Cx0} {S:Nat->Prop} {w:World} {κ:Ai} {st:St} {a:Act} {o:Oper}
 {K:Act->World->Prop} {Q:Exit->Act->World->Prop}
theorem CC.ext {κ':Ai} {S':Nat->Prop} {h h':List Blk} {w':World} (hE:CC Γ S w) (hg:Good κ S h w) (e:Ext κ S h w κ' S' h' w'):CC Γ S' w' :=
 λg=>VR.mono (e.pers hg) _ _ _ _ (λ_ _ h=>h) (hE g)
theorem Dg {κ:Ai} {d:Option Tmp} {v:V} {c:Value} (ht:VRs S w st.t κ a.tmps.toList) (hv:VR S w v κ c):VRs S w (put st d v).t κ (a.put d c).tmps.toList:=by
 cases d with
 | none=>exact ht
 | some d =>simp only [put,Act.put,Array.toList_setIfInBounds];exact ht.set d hv
theorem CZ (st:St) (d:Option Tmp) (v:V):(put st d v).h=st.h:=by cases d <;> rfl
theorem BA (a:Act) (d:Option Tmp) (c:Value):(a.put d c).defers=a.defers:=by cases d <;> rfl
theorem GX {α:Type} {ops:Array Oper} {run skip:T α} {x:α} (ht:VRs S w st.t κ a.tmps.toList) (h:(KU ops st o run skip).sem=some x) :
  (Region.wanted o (yielded ops a.tmps)=true∧run.sem=some x) ∨ (Region.wanted o (yielded ops a.tmps)=false∧skip.sem=some x):=by
 unfold KU at h;split at h
 ·rename_i hg
  exact .inl ⟨by simp [Region.wanted,hg],h⟩
 ·rename_i j want hg
  split at h
  ·rename_i oj hj
   split at h
   ·rename_i d hd
    have hy:∀ c,(nth st.t d = .und->False)->a.tmps.getD d undef=c->a.tmps[d]? = some c:=by
     intro c hu hc;have hlen:=ht.length;rcases Nat.lt_or_ge d a.tmps.size with hl | hl
     ·rw [Array.getElem?_eq_getElem hl]
      rw [<- hc];simp [Array.getD,hl]
     ·exfalso
      apply hu;rw [KL,List.getElem?_eq_none (by rw [<- hlen]; simpa using hl)];rfl
    have hn:=ht.nth d undef;have hgd:a.tmps.toList.getD d undef=a.tmps.getD d undef:=by simp
    rw [hgd] at hn;split at h
    ·rename_i b hb
     rw [hb] at hn;have hyd:yielded ops a.tmps j=some b:=by
      have:=hy (.bool b) (by rw [hb]; simp) (Bl hn);simp [yielded,hj,hd,this]
     have hw:Region.wanted o (yielded ops a.tmps)=(b == want):=by
      simp [Region.wanted,hg,hyd]
     rw [hw];cases want <;> cases b <;> first | exact .inl ⟨rfl,h⟩ | exact .inr ⟨rfl,h⟩
    ·rename_i vs hb
     rw [hb] at hn;have hyd:yielded ops a.tmps j=none:=by
      have:=hy _ (by rw [hb]; simp) (Bl hn);simp [yielded,hj,hd,this]
     exact .inr ⟨by simp [Region.wanted,hg,hyd],h⟩
    ·cases h
   ·cases h
  ·cases h
theorem Pu {r:V×St} (h:(step τ Γ o st).sem=some r):Gm o=true:=by
 unfold Gm;split
 ·rename_i c hc
  unfold step at h;rw [hc] at h;unfold keep Gv at h;rw [hc] at h;cases h
 ·rfl
def Way (dl:List Deferred) (Γ:Cx0) (κ:Ai) (S:Nat->Prop) (h:List Blk) (w:World) (st':St) (K:Act->World->Prop):Prop :=
 ∀ κ' S' a' w',Rel dl Γ κ' S' st' a' w'->Ext κ S h w κ' S' st'.h w'->K a' w'
theorem Way.ext {κ':Ai} {S':Nat->Prop} {h h':List Blk} {w':World} {st':St} (hw:Way dl Γ κ S h w st' K) (e:Ext κ S h w κ' S' h' w'):Way dl Γ κ' S' h' w' st' K :=
 λκ'' S'' a'' w'' hr e'=>hw κ'' S'' a'' w'' hr (e.trans e')
include hτ in
theorem MV (hΓ:Bb P Γ) (ops:Array Oper):∀ (n k:Nat) (st st':St) (κ:Ai) (S:Nat->Prop) (a:Act) (w:World),k+n=ops.size->Rel dl Γ κ S st a w ->
  (H4 τ Γ ops (ops.toList.drop k) st).sem=some st'->Way dl Γ κ S st.h w st' (λa' w'=>Q .normal a' w')->wpOpsIn (Ez ro) 0 P ops Q (List.range' k n) a w
 | 0,k,st,st',κ,S,a,w,hk,hr,h,hw=>by
  rw [List.drop_eq_nil_of_le (by simp; omega)] at h;have:=Aa h;subst this;exact hw κ S a w hr (Ext.refl _ _ _ _)
 | n+1,k,st,st',κ,S,a,w,hk,hr,h,hw=>by
  have hlt:k<ops.size:=by omega
  have hd:ops.toList.drop k=ops[k]::ops.toList.drop (k+1):=by
   rw [List.drop_eq_getElem_cons (by simpa using hlt)];simp
  rw [hd] at h;simp only [H4] at h;obtain ⟨st1,h1,h2⟩:=Ad h;simp only [List.range'_succ,wpOpsIn,Array.getElem?_eq_getElem hlt];unfold Ja at h1;rcases GX hr.tmps h1 with ⟨hwant,hrun⟩ | ⟨hwant,hskip⟩
  ·rw [if_pos hwant]
   obtain ⟨⟨v,st2⟩,h3,h4⟩:=Ad hrun;have h4:=Aa h4;refine HK (.inr (Pu h3)) (Lx (P:=P) hτ hΓ hr.good hr.env hr.tmps h3 ?_);intro κ' S' c w' q1 q2 q3 q4;refine MV hΓ ops n (k+1) st1 st' κ' S' _ w' (by omega) ?_ h2 ?_
   ·subst h4
    exact ⟨by rw [CZ]; exact q1,hr.env.ext hr.good q4,Dg q2 q3,by rw [BA]; exact hr.defers⟩
   ·subst h4
    rw [CZ];exact hw.ext q4
  ·rw [if_neg (by rw [hwant]; simp)]
   have h4:=Aa hskip;refine ⟨λ_ _=>trivial,?_⟩;refine MV hΓ ops n (k+1) st1 st' κ S _ w (by omega) ?_ h2 ?_
   ·subst h4
    exact ⟨by rw [CZ]; exact hr.good,hr.env,Dg hr.tmps rfl,by rw [BA]; exact hr.defers⟩
   ·subst h4
    rw [CZ];exact hw
include hτ in
theorem Aas (hΓ:Bb P Γ) {id:Nat} {ops:Array Oper} {st':St} (hr:Rel dl Γ κ S st a w) (h:(H4 τ Γ ops ops.toList st).sem=some st')
  (hw:Way dl Γ κ S st.h w st' (λa' w'=>Q .normal a' w')):(Code.region id ops false).wpIn (Ez ro) 0 P Q a w:=by
 refine wpIn_region ?_;have:=MV (P:=P) (Q:=Q) (ro:=ro) hτ hΓ ops ops.size 0 st st' κ S a w (by omega) hr (by simpa using h) hw;rwa [List.range_eq_range']
end
end Go.Sy
namespace Go.Sy
variable {dl:List Deferred} {ro:Option Nat}
def AE (st:St) (l:List Oper) (vals:Nat->V):Nat->St
 | 0=>st
 | k+1=>match l[k]? with
  | some o=>put (AE st l vals k) o.dst (vals k)
  | none=>AE st l vals k
theorem JF (st:St) (l:List Oper) (vals:Nat->V):∀ k,(AE st l vals k).h=st.h
 | 0=>rfl
 | k+1=>by
  simp only [AE];split
  ·rw [CZ,JF st l vals k]
  ·exact JF st l vals k
theorem EP (st:St) (d:Option Tmp) (v:V):(put st d v).t.length=st.t.length:=by
 cases d <;> simp [put]
theorem Bt (st:St) (l:List Oper) (vals:Nat->V):∀ k,(AE st l vals k).t.length=st.t.length
 | 0=>rfl
 | k+1=>by
  simp only [AE];split
  ·rw [EP,Bt st l vals k]
  ·exact Bt st l vals k
theorem Er (st:St) (o:Oper) (l:List Oper) (v:V) (vals:Nat->V):∀ k,
  AE st (o::l) (λi=>match i with | 0=>v | i+1=>vals i) (k+1)=AE (put st o.dst v) l vals k
 | 0=>by simp [AE]
 | k+1=>by
  have ih:=Er st o l v vals k;show (match (o::l)[k+1]? with
   | some o'=>put (AE st (o::l) (λi=>match i with | 0=>v | i+1=>vals i) (k+1)) o'.dst (vals k)
   | none=>AE st (o::l) (λi=>match i with | 0=>v | i+1=>vals i) (k+1))=_
  rw [ih];simp only [List.getElem?_cons_succ,AE]
theorem JE (st:St) (l:List Oper) (vals:Nat->V) (m:Nat):∀ k,k <= m->AE st (l.take m) vals k=AE st l vals k
 | 0,_=>rfl
 | k+1,h=>by
  unfold AE;rw [JE st l vals m k (by omega),List.getElem?_take,if_pos (show k<m by omega)]
theorem GN {τ:List Ty} {Γ:Cx0} (all:Array Oper):∀ (l:List Oper) (st st':St),(GO τ Γ all l st).sem=some st' ->
  ∃ vals,(∀ k o,l[k]? = some o->(CV τ Γ all o (AE st l vals k)).sem=some (vals k))∧st'=AE st l vals l.length
 | [],st,st',h=>⟨λ_=>.und,λk o hk=>by simp at hk,Aa h⟩
 | o::l,st,st',h=>by
  obtain ⟨v,h1,h2⟩:=Ad h;obtain ⟨vals,h3,h4⟩:=GN all l _ _ h2;refine ⟨λi=>match i with | 0=>v | i+1=>vals i,λk o' hk=>?_,?_⟩
  ·cases k with
   | zero =>simp at hk;subst hk;exact h1
   | succ k =>rw [Er];exact h3 k o' (by simpa using hk)
  ·rw [List.length_cons,Er]
   exact h4
theorem Kb (st:St) (d:Option Tmp) (v:V) (t:Nat):nth (put st d v).t t=if d=some t∧t<st.t.length then v else nth st.t t:=by
 cases d with
 | none=>simp [put]
 | some d =>
  simp only [put,KL,List.getElem?_set];by_cases h:d=t
  ·subst h
   by_cases hl:d<st.t.length
   ·simp [hl]
   ·simp [hl]
  ·simp [h]
section
variable {ops:Array Oper}
def Afb (l:List Oper):Prop:=∀ (i j:Nat) (o o':Oper) (d:Tmp),l[i]? = some o->l[j]? = some o'->o.dst=some d->o'.dst=some d->i=j
theorem Hp:∀ {l:List Oper},N8 l=true->Afb l
 | [],_=>λi j o o' d hi=>by simp at hi
 | p::l,h=>by
  have tail:N8 l=true∧∀ d,p.dst=some d->∀ o' ∈ l,o'.dst ≠ some d:=by
   simp only [N8] at h;split at h
   ·rename_i d hd
    split at h
    ·rename_i hall
     refine ⟨h,λd' hd' o' ho' he=>?_⟩;rw [hd] at hd';cases hd';have:=List.all_eq_true.1 hall o' ho';rw [he] at this;simp at this
    ·cases h
   ·rename_i hd
    exact ⟨h,λd' hd'=>by rw [hd] at hd'; cases hd'⟩
  have ih:=Hp tail.1;intro i j o o' d hi hj ho ho';cases i with
  | zero =>
   cases j with
   | zero=>rfl
   | succ j =>simp at hi hj;subst hi;exact absurd ho' (tail.2 d ho o' (List.mem_of_getElem? hj))
  | succ i =>
   cases j with
   | zero =>simp at hi hj;subst hj;exact absurd ho (tail.2 d ho' o (List.mem_of_getElem? hi))
   | succ j =>simp at hi hj;rw [ih i j o o' d hi hj ho ho']
theorem BD {st:St} {l:List Oper} {vals:Nat->V} {t:Nat}:∀ k,(∀ j o,j<k->l[j]? = some o->o.dst ≠ some t)->nth (AE st l vals k).t t=nth st.t t
 | 0,_=>rfl
 | k+1,h=>by
  have ih:=BD (st:=st) (l:=l) (vals:=vals) (t:=t) k (λj o hj=>h j o (by omega));simp only [AE];split
  ·rename_i o ho
   rw [Kb,if_neg (λhc=>h k o (by omega) ho hc.1),ih]
  ·exact ih
theorem Cl {st:St} {l:List Oper} (honce:Afb l) {vals:Nat->V} {t j:Nat} {o:Oper} (hj:l[j]? = some o) (hd:o.dst=some t) (ht:t<st.t.length) :
  ∀ k,j<k->nth (AE st l vals k).t t=vals j
 | 0,h=>by omega
 | k+1,h=>by
  simp only [AE];by_cases he:j=k
  ·subst he
   rw [hj];simp only;rw [Kb,if_pos ⟨hd,by rw [Bt]; exact ht⟩]
  ·have ih:=Cl honce hj hd ht (st:=st) (vals:=vals) k (by omega)
   split
   ·rename_i o' ho'
    rw [Kb,if_neg (λhc=>he (honce j k o o' t hj ho' hd hc.1)),ih]
   ·exact ih
def QZ (acc:Array Nat) (o:Oper):Nat:=o.after.foldl (λs e=>if Region.binds .any e then s ||| 2 ^ e.on ||| acc.getD e.on 0 else s) 0
def De:List Oper->Array Nat:=List.foldl (λacc o=>acc.push (QZ acc o)) #[]
theorem Bg (ops:Array Oper):Region.before ops=De ops.toList:=by
 unfold Region.before De QZ;rw [<- Array.foldl_toList]
theorem XJ (l:List Oper):∀ acc:Array Nat,(l.foldl (λacc o=>acc.push (QZ acc o)) acc).size=acc.size+l.length:=by
 induction l with
 | nil=>simp
 | cons o l ih=>intro acc; simp [ih]; omega
theorem Q2 (l:List Oper):∀ (acc:Array Nat) (i:Nat),i<acc.size->(l.foldl (λacc o=>acc.push (QZ acc o)) acc).getD i 0=acc.getD i 0:=by
 induction l with
 | nil=>simp
 | cons o l ih =>intro acc i hi;simp only [List.foldl_cons];rw [ih _ i (by simp; omega)];simp [Array.getD,hi,Nat.lt_succ_of_lt hi,Array.getElem_push_lt hi]
theorem Aau (acc:Array Nat) (x j:Nat) (h:acc.size=j):(acc.push x).getD j 0=x:=by
 subst h;simp [Array.getD]
theorem BJ {α:Type} (x:Array α) (i k:Nat) (v d:α):(x.setIfInBounds i v).getD k d=if k=i∧i<x.size then v else x.getD k d:=by
 rw [Array.getD_eq_getD_getElem?,Array.getD_eq_getD_getElem?,Array.getElem?_setIfInBounds];by_cases h:i=k
 ·subst h
  by_cases hl:i<x.size
  ·simp [hl]
  ·simp [hl]
 ·rw [if_neg h,if_neg (λhc=>h hc.1.symm)]
theorem IW (l:List Oper):(De l).size=l.length:=by unfold De; rw [XJ]; simp
theorem MB {l:List Oper} {j:Nat} {o:Oper} (hj:l[j]? = some o):(De l).getD j 0=QZ (De (l.take j)) o:=by
 have hlt:j<l.length:=(List.getElem?_eq_some_iff.1 hj).1;have ho:l[j]=o:=(List.getElem?_eq_some_iff.1 hj).2;have hsplit:l=l.take j++(o::l.drop (j+1)):=by
  rw [<- ho,<- List.drop_eq_getElem_cons hlt,List.take_append_drop]
 have hsz:(De (l.take j)).size=j:=by rw [IW,List.length_take]; omega
 conv=>lhs; rw [hsplit]
 unfold De;rw [List.foldl_append,List.foldl_cons];rw [Q2 _ _ _ (by rw [Array.size_push]; show j<(De (l.take j)).size+1; omega)];exact Aau _ _ _ hsz
theorem UA {l:List Oper} {j i:Nat} (h:i<j):(De (l.take j)).getD i 0=(De l).getD i 0:=by
 conv=>rhs; rw [<- List.take_append_drop j l]
 unfold De;rw [List.foldl_append];by_cases hi:i<(De (l.take j)).size
 ·exact (Q2 _ _ _ hi).symm
 ·rw [IW,List.length_take] at hi
  have hlen:l.length <= i:=by omega
  rw [List.drop_eq_nil_of_le (by omega)];rfl
theorem Ls (acc:Array Nat) (k:Nat):∀ (es:List Edge) (s:Nat),Nat.testBit (es.foldl (λs e=>if Region.binds .any e then s ||| 2 ^ e.on ||| acc.getD e.on 0 else s) s) k=true ->
  Nat.testBit s k=true ∨ ∃ e ∈ es,Region.binds .any e=true∧(e.on=k ∨ Nat.testBit (acc.getD e.on 0) k=true)
 | [],_,h=>.inl h
 | e::es,s,h=>by
  simp only [List.foldl_cons] at h;rcases Ls acc k es _ h with h1 | ⟨e',he',hb,hc⟩
  ·split at h1
   ·rename_i hb
    simp only [Nat.testBit_or,Bool.or_eq_true,Nat.testBit_two_pow] at h1;rcases h1 with (h1 | h1) | h1
    ·exact .inl h1
    ·exact .inr ⟨e,by simp,hb,.inl (by simpa using h1)⟩
    ·exact .inr ⟨e,by simp,hb,.inr h1⟩
   ·exact .inl h1
  ·exact .inr ⟨e',by simp [he'],hb,hc⟩
def EU (l:List Oper) (X:Nat->Prop):Prop:=∀ i o,l[i]? = some o->X i->∀ e ∈ o.after,Region.binds .any e=true->X e.on
theorem BV {l:List Oper} {X:Nat->Prop} (hX:EU l X):∀ (n j k:Nat) (o:Oper),j<n->l[j]? = some o->(∀ e ∈ o.after,Region.binds .any e=true->X e.on) ->
  Nat.testBit ((De l).getD j 0) k=true->X k
 | 0,_,_,_,h,_,_,_=>by omega
 | n+1,j,k,o,hjn,hj,hafter,h=>by
  rw [MB hj] at h;unfold QZ at h;rw [<- Array.foldl_toList] at h;rcases Ls _ k _ _ h with h1 | ⟨e,he,hb,hc⟩
  ·simp at h1
  ·have hxe:=hafter e (by simpa using he) hb
   rcases hc with rfl | hc
   ·exact hxe
   ·by_cases hlt:e.on<j
    ·rw [UA hlt] at hc
     have hjl:j<l.length:=(List.getElem?_eq_some_iff.1 hj).1;have hoe:l[e.on]? = some l[e.on]:=List.getElem?_eq_getElem (by omega);exact BV hX n e.on k _ (by omega) hoe (λe' he' hb'=>hX _ _ hoe hxe e' he' hb') hc
    ·have:(De (l.take j)).getD e.on 0=0:=by
      unfold Array.getD;rw [dif_neg (by rw [IW,List.length_take]; omega)]
     rw [this] at hc;simp at hc
theorem HY (rs:List Nat):∀ (l:List V) (i t:Nat),nth (C9 rs i l) t=if D2 (i+t) rs=true then nth l t else .und
 | [],i,t=>by simp [C9,nth]
 | v::l,i,0=>by
  simp only [C9,nth,Nat.add_zero];split <;> simp_all
 | v::l,i,t+1=>by
  simp only [C9,nth];rw [HY rs l (Nat.succ i) t,show Nat.succ i+t=i+(t+1) by omega]
theorem Cf (rs:List Nat):∀ (l:List V) (i:Nat),(C9 rs i l).length=l.length
 | [],_=>rfl
 | v::l,i=>by simp [C9,Cf rs l]
theorem C3 {S:Nat->Prop} {w:World} {κ:Ai}:∀ (vs:List V) (l:List Value),l.length=vs.length->(∀ t,t<vs.length->VR S w (nth vs t) κ (l.getD t undef))->VRs S w vs κ l
 | [],l,h,_=>List.eq_nil_of_length_eq_zero h
 | v::vs,[],h,_=>by simp at h
 | v::vs,c::l,h,hn=>by
  refine ⟨c,l,rfl,by simpa [nth] using hn 0 (by simp),C3 vs l (by simpa using h) λt ht=>?_⟩;have:=hn (t+1) (by simpa using ht);simpa [nth] using this
theorem Du {bf:Array Nat} {j:Nat} {rs:List Nat}:∀ (l:List Oper) (k0:Nat),LG bf j rs k0 l=true->∀ i o d,l[i]? = some o->o.dst=some d->D2 d rs=true ->
  k0+i ≠ j∧(k0+i<j->Nat.testBit (bf.getD j 0) (k0+i)=true)∧(j<k0+i->Nat.testBit (bf.getD (k0+i) 0) j=true)
 | [],_,_,i,o,d,hi,_,_=>by simp at hi
 | p::l,k0,h,i,o,d,hi,hd,hm=>by
  simp only [LG] at h;split at h
  ·rename_i hp
   cases i with
   | zero =>
    simp at hi;subst hi;rw [hd] at hp;simp only [hm] at hp;rw [Nat.add_zero];cases hb:Nat.beq k0 j with
    | true=>rw [hb] at hp; cases hp
    | false =>
     rw [hb] at hp;have hne:k0 ≠ j:=Nat.ne_of_beq_eq_false hb;refine ⟨hne,λhlt=>?_,λhlt=>?_⟩
     ·have:Nat.blt k0 j=true:=by simpa using hlt
      rw [this] at hp;exact hp
     ·have:Nat.blt k0 j=false:=by
       cases hc:Nat.blt k0 j
       ·rfl
       ·simp at hc; omega
      rw [this] at hp;exact hp
   | succ i =>have:=Du l (Nat.succ k0) h i o d (by simpa using hi) hd hm;rw [show Nat.succ k0+i=k0+(i+1) by omega] at this;exact this
  ·cases h
theorem CY {all:Array Oper} {bf:Array Nat}:∀ (l:List Oper) (j0:Nat),ME all bf j0 l=true->∀ i o,l[i]? = some o->LG bf (j0+i) (Bq all o) 0 all.toList=true
 | [],_,_,i,o,hi=>by simp at hi
 | p::l,j0,h,i,o,hi=>by
  simp only [ME] at h;split at h
  ·rename_i hp
   cases i with
   | zero=>simp at hi; subst hi; exact hp
   | succ i =>have:=CY l (Nat.succ j0) h i o (by simpa using hi);rwa [show Nat.succ j0+i=j0+(i+1) by omega] at this
  ·cases h
theorem C0:∀ (l:List Oper) (j0:Nat),Ig j0 l=true->∀ i o,l[i]? = some o->∀ e ∈ o.after,Region.binds .any e=true->e.on<j0+i
 | [],_,_,i,o,hi,_,_,_=>by simp at hi
 | p::l,j0,h,i,o,hi,e,he,hb=>by
  simp only [Ig] at h;split at h
  ·rename_i hp
   cases i with
   | zero =>simp at hi;subst hi;have:=List.all_eq_true.1 hp e (by simpa using he);rw [hb] at this;simpa using this
   | succ i =>have:=C0 l (Nat.succ j0) h i o (by simpa using hi) e he hb;rwa [show Nat.succ j0+i=j0+(i+1) by omega] at this
  ·cases h
end
def left (n:Nat) (listed:Array Bool):Nat:=((List.range n).filter λi=>!listed.getD i true).length
theorem D3 {n i:Nat} {listed:Array Bool} (hi:i<n) (hs:listed.size=n) (hf:listed.getD i true=false):left n (listed.setIfInBounds i true)+1=left n listed:=by
 unfold left;have h:∀ m,m <= n->((List.range m).filter λk=>!(listed.setIfInBounds i true).getD k true).length+(if i<m then 1 else 0)=((List.range m).filter λk=>!listed.getD k true).length:=by
  intro m
  induction m with
  | zero=>simp
  | succ m ih =>
   intro hm;have ih:=ih (by omega);rw [List.range_succ,List.filter_append,List.filter_append,List.length_append,List.length_append];by_cases he:m=i
   ·subst he
    have h1:(listed.setIfInBounds m true).getD m true=true:=by rw [BJ,if_pos ⟨rfl,by omega⟩]
    simp only [List.filter_cons,List.filter_nil,h1,hf];simp at ih ⊢;omega
   ·have h1:(listed.setIfInBounds i true).getD m true=listed.getD m true:=by
     rw [BJ,if_neg (λhc=>he hc.1)]
    simp only [List.filter_cons,List.filter_nil,h1];have h2:(i<m+1)↔(i<m):=by omega
    simp only [h2];omega
 have:=h n (Nat.le_refl _);rw [if_pos hi] at this;exact this
section
variable {P:Program} {τ:List Ty} (hτ:TabOK P τ) {Γ:Cx0} {ops:Array Oper} {Q:Exit->Act->World->Prop}
structure Mid (dl:List Deferred) (Γ:Cx0) (κ0:Ai) (S0:Nat->Prop) (w0:World) (st:St) (ops:Array Oper) (vals:Nat->V) (X:Nat->Prop) (κ:Ai) (S:Nat->Prop) (a:Act) (w:World):Prop where
 good:Good κ S st.h w
 env:CC Γ S w
 ext:Ext κ0 S0 st.h w0 κ S st.h w
 defers:a.defers=dl
 size:a.tmps.size=st.t.length
 wrote:∀ j o t,ops[j]? = some o->o.dst=some t->t<st.t.length->X j->VR S w (vals j) κ (a.tmps.getD t undef)
 stays:∀ t,t<st.t.length->(∀ j o,ops[j]? = some o->X j->o.dst ≠ some t)->VR S w (nth st.t t) κ (a.tmps.getD t undef)
theorem Ml:∀ l:List Oper,GE l <= l.length
 | []=>Nat.le_refl _
 | o::l=>by
  unfold GE;split
  ·exact Nat.zero_le _
  ·exact Nat.zero_le _
  ·exact Nat.zero_le _
  ·have:=Ml l
   simp;omega
theorem Mz {bf:Array Nat}:∀ (n k:Nat),M1 bf k n=true->∀ i,k <= i->i<k+n->∀ j,j<i->Nat.testBit (bf.getD i 0) j=true
 | 0,k,_,i,h1,h2,_,_=>by omega
 | n+1,k,h,i,h1,h2,j,hj=>by
  unfold M1 at h;split at h
  ·rename_i hk
   by_cases hi:i=k
   ·subst hi
    rw [List.all_eq_true] at hk;exact hk j (by simpa using hj)
   ·exact Mz n (Nat.succ k) h i (by omega) (by omega) j hj
  ·cases h
theorem Of {n m:Nat} {listed:Array Bool} (h1:∀ i,i<m->listed.getD i true=true) (h2:∀ i,m <= i->i<n->listed.getD i true=false):left n listed=n-m:=by
 induction n with
 | zero=>simp [left]
 | succ n ih =>
  have ih:=ih (λi hi hn=>h2 i hi (by omega));unfold left at ih ⊢;rw [List.range_succ,List.filter_append,List.length_append,ih];by_cases hn:n<m
  ·simp only [List.filter_cons,List.filter_nil,h1 n hn]
   simp;omega
  ·simp only [List.filter_cons,List.filter_nil,h2 n (by omega) (by omega)]
   simp;omega
theorem B5 (x:Array Value) (t:Nat):x.toList.getD t undef=x.getD t undef:=by simp
include hτ in
theorem Lu (hΓ:Bb P Γ) {m:Nat} (hback:Ig 0 ops.toList=true) (hch:∀ i,m <= i->i<ops.size->∀ j,j<i->Nat.testBit ((Region.before ops).getD i 0) j=true):∀ (n k:Nat) (listed:Array Bool) (st st':St) (κ:Ai) (S:Nat->Prop) (a:Act) (w:World),
  k+n=ops.size->m <= k->listed.size=ops.size->(∀ i,i<ops.size->(listed.getD i false=true↔i<k))->Rel dl Γ κ S st a w ->
  (H4 τ Γ ops (ops.toList.drop k) st).sem=some st'->Way dl Γ κ S st.h w st' (λa' w'=>Q .normal a' w')->wpAny P .any ops Q n listed a w
 | 0,k,listed,st,st',κ,S,a,w,hk,hm,hsz,hl,hr,h,hw=>by
  rw [List.drop_eq_nil_of_le (by simp; omega)] at h;have:=Aa h;subst this;refine ⟨?_,hw κ S a w hr (Ext.refl _ _ _ _)⟩;apply List.eq_nil_iff_forall_not_mem.2;intro i hi;obtain ⟨h0,o,ho,_⟩:=mem_ready.1 hi;have hil:i<ops.size:=(Array.getElem?_eq_some_iff.1 ho).1;have h1:=(hl i hil).2 (by omega);have hil':i<listed.size:=by omega
  simp [Array.getD,hil'] at h0 h1;rw [h0] at h1;cases h1
 | n+1,k,listed,st,st',κ,S,a,w,hk,hm,hsz,hl,hr,h,hw=>by
  have hlt:k<ops.size:=by omega
  have hlt':k<listed.size:=by omega
  have hlk:listed.getD k false=false:=by
   cases hq:listed.getD k false with
   | false=>rfl
   | true=>have:=(hl k hlt).1 hq; omega
  have hedges:=λi o hi=>C0 ops.toList 0 hback i o hi;have only:∀ i,i ∈ Region.ready .any ops listed->i=k:=by
   intro i hi;obtain ⟨h0,o,ho,hafter⟩:=mem_ready.1 hi;have hil:i<ops.size:=(Array.getElem?_eq_some_iff.1 ho).1;have hil':i<listed.size:=by omega
   have h0':listed.getD i false=false:=by
    simp [Array.getD,hil'] at h0 ⊢;exact h0
   have hki:¬ i<k:=λhc=>by rw [(hl i hil).2 hc] at h0'; cases h0'
   rcases Nat.lt_or_ge k i with hgt | hge
   ·exfalso
    have hcl:EU ops.toList (λi=>listed.getD i false=true):=by
     intro q oq hq hX e he hb;have hql:q<ops.size:=by
      have:=(List.getElem?_eq_some_iff.1 hq).1;simpa using this
     have hqk:=(hl q hql).1 hX;have:=hedges q oq hq e he hb;exact (hl e.on (by omega)).2 (by omega)
    have hb:=hch i (by omega) hil k hgt;rw [Bg] at hb;have:=BV hcl (i+1) i k o (by omega) (by simpa using ho) hafter hb;rw [hlk] at this;cases this
   ·omega
  have kready:k ∈ Region.ready .any ops listed:=by
   refine mem_ready.2 ⟨?_,ops[k],by simp [hlt],λe he hb=>?_⟩
   ·simp [Array.getD,hlt'] at hlk ⊢
    exact hlk
   ·have:=hedges k ops[k] (by simp [hlt]) e he hb
    exact (hl e.on (by omega)).2 (by omega)
  refine ⟨λhready=>absurd kready (by rw [hready]; simp),λi hi=>?_⟩;have:=only i hi;subst this;have hd:ops.toList.drop i=ops[i]::ops.toList.drop (i+1):=by
   rw [List.drop_eq_getElem_cons (by simpa using hlt)];simp
  rw [hd] at h;simp only [H4] at h;obtain ⟨st1,h1,h2⟩:=Ad h;have hl':∀ q,q<ops.size->((listed.setIfInBounds i true).getD q false=true↔q<i+1):=by
   intro q hq;rw [BJ];by_cases hqi:q=i
   ·rw [if_pos ⟨hqi,by omega⟩]
    simp;omega
   ·rw [if_neg (λhc=>hqi hc.1),hl q hq]
    omega
  unfold wpOp;rw [Array.getElem?_eq_getElem hlt];simp only;unfold Ja at h1;rcases GX hr.tmps h1 with ⟨hwant,hrun⟩ | ⟨hwant,hskip⟩
  ·rw [if_pos hwant]
   left;obtain ⟨⟨v,st2⟩,h3,h4⟩:=Ad hrun;have h4:=Aa h4;refine Lx (P:=P) hτ hΓ hr.good hr.env hr.tmps h3 ?_;intro κ' S' c w' q1 q2 q3 q4;refine Lu hΓ hback hch n (i+1) _ st1 st' κ' S' _ w' (by omega) (by omega) (by simp [hsz]) hl' ?_ h2 ?_
   ·subst h4
    exact ⟨by rw [CZ]; exact q1,hr.env.ext hr.good q4,Dg q2 q3,by rw [BA]; exact hr.defers⟩
   ·subst h4
    rw [CZ];exact hw.ext q4
  ·rw [if_neg (by rw [hwant]; simp)]
   have h4:=Aa hskip;refine Lu hΓ hback hch n (i+1) _ st1 st' κ S _ w (by omega) (by omega) (by simp [hsz]) hl' ?_ h2 ?_
   ·subst h4
    exact ⟨by rw [CZ]; exact hr.good,hr.env,Dg hr.tmps rfl,by rw [BA]; exact hr.defers⟩
   ·subst h4
    rw [CZ];exact hw
include hτ in
theorem Aat (hΓ:Bb P Γ) {κ0:Ai} {S0:Nat->Prop} {w0:World} {st:St} {vals:Nat->V} (hd:Ej ops=true) {m:Nat} (hm0:m <= ops.size)
  (hch:∀ i,m <= i->i<ops.size->∀ j,j<i->Nat.testBit ((Region.before ops).getD i 0) j=true)
  (hv:∀ k o,k<m->ops.toList[k]? = some o->(CV τ Γ ops o (AE st ops.toList vals k)).sem=some (vals k)) {st':St}
  (hrest:(H4 τ Γ ops (ops.toList.drop m) (AE st ops.toList vals m)).sem=some st')
  (hw:Way dl Γ κ0 S0 st.h w0 st' (λa' w'=>Q .normal a' w')) :
  ∀ (fuel:Nat) (listed:Array Bool) (κ:Ai) (S:Nat->Prop) (a:Act) (w:World),listed.size=ops.size->left ops.size listed=fuel->(∀ k,m <= k->k<ops.size->listed.getD k false=false) ->
   EU ops.toList (λi=>listed.getD i false=true)->Mid dl Γ κ0 S0 w0 st ops vals (λi=>listed.getD i false=true) κ S a w->wpAny P .any ops Q fuel listed a w:=by
 unfold Ej at hd;split at hd
 ·rename_i hback honce
  have honce:=Hp honce;have hedges:=λi o hi=>C0 ops.toList 0 hback i o hi;have hreads:=λi o hi=>CY ops.toList 0 hd i o hi;have fin:∀ (fuel:Nat) (listed:Array Bool) (κ:Ai) (S:Nat->Prop) (a:Act) (w:World),listed.size=ops.size->left ops.size listed=fuel->(∀ k,m <= k->k<ops.size->listed.getD k false=false) ->
    (∀ i,i<m->listed.getD i false=true)->Mid dl Γ κ0 S0 w0 st ops vals (λi=>listed.getD i false=true) κ S a w->wpAny P .any ops Q fuel listed a w:=by
   intro fuel listed κ S a w hsz hleft hno hall hm;have hiff:∀ i,i<ops.size->(listed.getD i false=true↔i<m):=by
    intro i hi;constructor
    ·intro hX
     rcases Nat.lt_or_ge i m with hc | hc
     ·exact hc
     ·rw [hno i hc hi] at hX; cases hX
    ·exact hall i
   have hf:fuel=ops.size-m:=by
    rw [<- hleft];refine Of (λi hi=>?_) (λi hi hn=>?_)
    ·have h1:=hall i hi
     have hil:i<listed.size:=by omega
     simp [Array.getD,hil] at h1 ⊢;exact h1
    ·have h1:=hno i hi hn
     have hil:i<listed.size:=by omega
     simp [Array.getD,hil] at h1 ⊢;exact h1
   subst hf;refine Lu (P:=P) hτ hΓ hback hch (ops.size-m) m listed (AE st ops.toList vals m) st' κ S a w (by omega) (Nat.le_refl _) hsz hiff ⟨by rw [JF]; exact hm.good,hm.env,?_,hm.defers⟩ hrest (by rw [JF]; exact hw.ext hm.ext);refine C3 _ _ (by rw [Array.length_toList,hm.size,Bt]) λt ht=>?_;rw [Bt] at ht;rw [B5];by_cases hex:∃ (j:Nat) (o:Oper),j<m∧ops[j]? = some o∧o.dst=some t
   ·obtain ⟨j,o,hjm,hj,hdst⟩:=hex
    rw [Cl honce (by simpa using hj) hdst ht m hjm];exact hm.wrote j o t hj hdst ht (hall j hjm)
   ·rw [BD m (λj o hjm hj hdst=>hex ⟨j,o,hjm,by simpa using hj,hdst⟩)]
    exact hm.stays t ht (λj o hj hX hdst=>by
     have hjl:j<ops.size:=(Array.getElem?_eq_some_iff.1 hj).1;exact hex ⟨j,o,(hiff j hjl).1 hX,hj,hdst⟩)
  have allOf:∀ listed:Array Bool,listed.size=ops.size->Region.ready .any ops listed=[]->∀ i,i<ops.size->listed.getD i false=true:=by
   intro listed hsz hready i
   induction i using Nat.strongRecOn with
   | _ i ih =>
    intro hi;cases hl:listed.getD i false with
    | true=>rfl
    | false =>
     exfalso
     have hmem:i ∈ Region.ready .any ops listed:=by
      refine mem_ready.2 ⟨?_,ops[i],by simp [hi],λe he hb=>?_⟩
      ·have:i<listed.size:=by omega
       simp [Array.getD,this] at hl ⊢;exact hl
      ·have hlt:=hedges i ops[i] (by simp [hi]) e he hb
       exact ih e.on (by omega) (by omega)
     rw [hready] at hmem;cases hmem
  intro fuel
  induction fuel with
  | zero =>
   intro listed κ S a w hsz hleft hno hcl hm;refine fin 0 listed κ S a w hsz hleft hno (λi hi=>?_) hm;have hil:i<ops.size:=by omega
   cases hl:listed.getD i true with
   | true =>
    have hil':i<listed.size:=by omega
    simp [Array.getD,hil'] at hl ⊢;exact hl
   | false =>
    exfalso
    have:=D3 hil hsz hl;omega
  | succ fuel ih =>
   intro listed κ S a w hsz hleft hno hcl hm;by_cases hall:∀ i,i<m->listed.getD i false=true
   ·exact fin (fuel+1) listed κ S a w hsz hleft hno hall hm
   refine ⟨λhready=>absurd (λi hi=>allOf listed hsz hready i (by omega)) hall,λi hi=>?_⟩;obtain ⟨h0,o,ho,hafter⟩:=mem_ready.1 hi;have hil:i<ops.size:=(Array.getElem?_eq_some_iff.1 ho).1;have hiF:listed.getD i false=false:=by
    have:i<listed.size:=by omega
    simp [Array.getD,this] at h0 ⊢;exact h0
   have hol:ops.toList[i]? = some o:=by simpa using ho
   have him:i<m:=by
    rcases Nat.lt_or_ge i m with hc | hc
    ·exact hc
    ·exfalso
     refine hall λj hj=>?_;have hb:=hch i hc hil j (by omega);rw [Bg] at hb;exact BV hcl (i+1) i j o (by omega) hol hafter hb
   have hr:=hreads i o hol;rw [Nat.zero_add,Bg] at hr;have hslot:∀ t,t<st.t.length->D2 t (Bq ops o)=true->VR S w (nth (AE st ops.toList vals i).t t) κ (a.tmps.getD t undef):=by
    intro t ht hmem;by_cases hex:∃ (j:Nat) (o':Oper),ops[j]? = some o'∧o'.dst=some t
    ·obtain ⟨j,o',hj,hdst⟩:=hex
     have hjl:ops.toList[j]? = some o':=by simpa using hj
     obtain ⟨hne,hlt,hgt⟩:=Du ops.toList 0 hr j o' t hjl hdst hmem;rw [Nat.zero_add] at hne hlt hgt;rcases Nat.lt_or_gt_of_ne hne with hc | hc
     ·have hX:=BV hcl (i+1) i j o (by omega) hol hafter (hlt hc)
      rw [Cl honce hjl hdst ht i hc];exact hm.wrote j o' t hj hdst ht hX
     ·have hnX:¬ (listed.getD j false=true):=by
       intro hX;have:=BV hcl (j+1) j i o' (by omega) hjl (λe he hb=>hcl j o' hjl hX e he hb) (hgt hc);rw [hiF] at this;cases this
      rw [BD i (λk o'' hk hok hdk=>by
       have:=honce k j o'' o' t hok hjl hdk hdst;omega)]
      exact hm.stays t ht (λk o'' hok hXk hdk=>by
       have:=honce k j o'' o' t (by simpa using hok) hjl hdk hdst;subst this;exact hnX hXk)
    ·rw [BD i (λk o'' _ hok hdk=>hex ⟨k,o'',by simpa using hok,hdk⟩)]
     exact hm.stays t ht (λk o'' hok _ hdk=>hex ⟨k,o'',hok,hdk⟩)
   have hmask:VRs S w (C9 (Bq ops o) 0 (AE st ops.toList vals i).t) κ a.tmps.toList:=by
    refine C3 _ _ (by rw [Array.length_toList,hm.size,Cf,Bt]) λt ht=>?_;rw [Cf,Bt] at ht;rw [HY,Nat.zero_add,B5];split
    ·rename_i hmem
     exact hslot t ht hmem
    ·trivial
   have next:∀ (κ':Ai) (S':Nat->Prop) (c:Value) (w':World),Good κ' S' st.h w'->VR S' w' (vals i) κ' c->Ext κ S st.h w κ' S' st.h w' ->
     (∀ id c,κ id=some c->κ' id=some c)->wpAny P .any ops Q fuel (listed.setIfInBounds i true) (a.put o.dst c) w':=by
    intro κ' S' c w' q1 q2 q3 q4;have hX':∀ k,(listed.setIfInBounds i true).getD k false=true↔(k=i ∨ listed.getD k false=true):=by
     intro k;rw [BJ];by_cases hk:k=i
     ·rw [if_pos ⟨hk,by omega⟩]
      simp [hk]
     ·rw [if_neg (λhc=>hk hc.1)]
      simp [hk]
    refine ih (listed.setIfInBounds i true) κ' S' _ w' (by simp [hsz]) (by have:=D3 hil hsz h0; omega) (λk hk hkn=>by rw [BJ,if_neg (λhc=>by omega)]; exact hno k hk hkn) ?_ ?_
    ·intro k ok hk hXk e he hb
     rw [hX'] at hXk;rw [hX'];rcases hXk with rfl | hXk
     ·rw [hol] at hk
      cases hk;exact .inr (hafter e he hb)
     ·exact .inr (hcl k ok hk hXk e he hb)
    ·have hput:∀ t,t<st.t.length->(a.put o.dst c).tmps.getD t undef=if o.dst=some t then c else a.tmps.getD t undef:=by
      intro t ht;have ht':t<a.tmps.size:=by rw [hm.size]; exact ht
      cases hod:o.dst with
      | none=>simp [Act.put]
      | some d =>
       simp only [Act.put];rw [BJ];by_cases hdt:d=t
       ·subst hdt
        rw [if_pos ⟨rfl,ht'⟩,if_pos rfl]
       ·rw [if_neg (λhc=>hdt hc.1.symm),if_neg (by simpa using hdt)]
     refine ⟨q1,hm.env.ext hm.good q3,hm.ext.trans q3,by rw [BA]; exact hm.defers,?_,?_,?_⟩
     ·rw [<- hm.size]
      cases o.dst <;> simp [Act.put]
     ·intro k ok t hk hdk ht hXk
      rw [hX'] at hXk;rw [hput t ht];rcases hXk with rfl | hXk
      ·rw [ho] at hk
       cases hk;rw [if_pos hdk];exact q2
      ·rw [if_neg (λhc=>by
        have:=honce k i ok o t (by simpa using hk) hol hdk hc;subst this;rw [hiF] at hXk;cases hXk)]
       exact VR.mono (q3.pers hm.good) _ _ _ _ q4 (hm.wrote k ok t hk hdk ht hXk)
     ·intro t ht hno
      rw [hput t ht,if_neg (λhc=>hno i o ho ((hX' i).2 (.inl rfl)) hc)];exact VR.mono (q3.pers hm.good) _ _ _ _ q4 (hm.stays t ht (λk ok hk hXk=>hno k ok hk ((hX' k).2 (.inr hXk))))
   have hq:=hv i o him hol;unfold CV at hq;rw [JF] at hq;unfold wpOp;rw [ho];simp only;rcases GX (st:=⟨C9 (Bq ops o) 0 (AE st ops.toList vals i).t,st.h⟩) hmask hq with ⟨hwant,hrun⟩ | ⟨hwant,hskip⟩
   ·rw [if_pos hwant]
    left;exact Pv (P:=P) (st:=⟨C9 (Bq ops o) 0 (AE st ops.toList vals i).t,st.h⟩) hτ hΓ hm.good hm.env hmask hrun next
   ·rw [if_neg (by rw [hwant]; simp)]
    have hvi:vals i=A5:=Aa hskip;exact next κ S undef w hm.good (by rw [hvi]; exact rfl) (Ext.refl _ _ _ _) (λ_ _ h=>h)
 ·cases hd
theorem M3 (bf:Array Nat):∀ k,Ii bf k <= k
 | 0=>Nat.le_refl _
 | k+1=>by
  unfold Ii;split
  ·exact Nat.le_succ_of_le (M3 bf k)
  ·exact Nat.le_refl _
theorem Abc (ops:Array Oper):Ek ops <= ops.size:=by
 unfold Ek;split
 ·exact M3 _ _
 ·have:=Ml ops.toList
  simpa using this
include hτ in
theorem P8 (hm:P.follows .mixedOrders=true) (hΓ:Bb P Γ) {id:Nat} {st st':St} {κ:Ai} {S:Nat->Prop} {a:Act} {w:World} (hr:Rel dl Γ κ S st a w)
  (hd:Ej ops=true) (hc:M1 (Region.before ops) (Ek ops) (Nat.sub ops.size (Ek ops))=true) {st1:St} (h:(GO τ Γ ops (ops.toList.take (Ek ops)) st).sem=some st1)
  (h2:(H4 τ Γ ops (ops.toList.drop (Ek ops)) st1).sem=some st') (hnd:ro=none ∨ ops.all Gm=true) (hw:Way dl Γ κ S st.h w st' (λa' w'=>Q .normal a' w')):(Code.region id ops true).wpIn (Ez ro) 0 P Q a w:=by
 obtain ⟨vals,hv,rfl⟩:=GN ops _ st st1 h;have hle:Ek ops <= ops.size:=Abc ops;have hbt:∀ k,k <= Ek ops->AE st (ops.toList.take (Ek ops)) vals k=AE st ops.toList vals k:=λk hk=>JE st ops.toList vals (Ek ops) k hk;rw [List.length_take,Array.length_toList,Nat.min_eq_left hle,hbt _ (Nat.le_refl _)] at h2;refine wpIn_mono (Q:=λe a w=>e = .normal∧Q .normal a w) (wpIn_region_any hm (Tn hnd (λ⟨a,w,h⟩=>by cases h.1) _ _ _ _ ?_)) (λe a w h=>h.1 ▸ h.2);have hw:Way dl Γ κ S st.h w st' (λa' w'=>Exit.normal = .normal∧Q .normal a' w'):=λκ' S' a' w' h1 h2=>⟨rfl,hw κ' S' a' w' h1 h2⟩;have hg':Good κ S st.h { w with drawn:=w.drawn+1 }:=by
  obtain ⟨g1,g2,g3,g4⟩:=hr.good;refine ⟨λi b hb=>?_,g2,g3,g4⟩;exact A7.mono (w:=w) (λb hb=>⟨hb,rfl⟩) (λ_ _ h=>h) (λ_ _=>rfl) (g1 i b hb)
 have hext:Ext κ S st.h w κ S st.h { w with drawn:=w.drawn+1 }:=⟨rfl,rfl,rfl,Nat.le_refl _,λ_ _ _=>rfl,λi b hb=>.inl ⟨i,hb⟩,λ_ hb=>.inl hb,λ_ hb=>hb,λb p h=>⟨h,E5.same rfl⟩,λ_ b h hb=>⟨rfl,b,h,Bz.refl hb⟩⟩
 have hpers:∀ b,S b->S b∧({ w with drawn:=w.drawn+1 }:World).heap[b]? = w.heap[b]?:=λb hb=>⟨hb,rfl⟩
 have hrep:∀ i,(Array.replicate ops.size false).getD i false=false:=by
  intro i;by_cases hi:i<ops.size
  ·simp [Array.getD,hi]
  ·simp [Array.getD,hi]
 have hch:=λi (h1:Ek ops <= i) (h3:i<ops.size)=>Mz _ _ hc i h1 (show i<Ek ops+(ops.size-Ek ops) by omega);refine Aat (P:=P) hτ hΓ hd hle hch (λk o hk ho=>?_) h2 (hw.ext hext) ops.size _ κ S a _ (by simp) ?_ (λk _ _=>hrep k) ?_ ?_
 ·have:=hv k o (by rw [List.getElem?_take,if_pos hk]; exact ho)
  rwa [hbt k (Nat.le_of_lt hk)] at this
 ·unfold left
  rw [List.filter_eq_self.2]
  ·simp
  ·intro i hi
   simp at hi;simp [Array.getD,hi]
 ·intro i o hi hX
  rw [hrep] at hX;cases hX
 ·have htm:=VR.mono_go hpers _ _ κ _ (λ_ _ h=>h) hr.tmps
  refine ⟨hg',λg=>VR.mono hpers _ _ _ _ (λ_ _ h=>h) (hr.env g),Ext.refl _ _ _ _,hr.defers,?_,?_,?_⟩
  ·have:=hr.tmps.length
   simpa using this
  ·intro j o t _ _ _ hX
   rw [hrep] at hX;cases hX
  ·intro t ht _
   have:=htm.nth t undef;rwa [B5] at this
end
end Go.Sy
