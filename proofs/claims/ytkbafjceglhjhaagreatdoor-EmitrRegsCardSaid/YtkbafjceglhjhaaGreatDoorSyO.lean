/-
  Code, loops and functions: what the evaluator says of a function's body is what a call of it comes to. Conditions: the table of types is the program's; callees and loops do what the evaluator is told.
-/
import Derived.Test.YtkbafjceglhjhaaGreatDoorSyNb
import Derived.LoopN
namespace Go.Sy
section
variable {Γ:Cx0}
def LE (Γ:Cx0) (st st':St):Prop:=∀ κ S a w,Rel Γ κ S st a w->∃ κ' S',Rel Γ κ' S' st' a w∧Ext κ S st.h w κ' S' st'.h w
theorem LE.refl (st:St):LE Γ st st:=λκ S _ _ h=>⟨κ,S,h,Ext.refl _ _ _ _⟩
theorem LE.trans {st st' st'':St} (h:LE Γ st st') (h':LE Γ st' st''):LE Γ st st'':=λκ S a w hr=>by
 obtain ⟨κ1,S1,r1,e1⟩:=h κ S a w hr;obtain ⟨κ2,S2,r2,e2⟩:=h' κ1 S1 a w r1;exact ⟨κ2,S2,r2,e1.trans e2⟩
end
section
variable {S:Nat->Prop} {w:World} {κ κ':Aq} {n:Nat}
mutual
theorem Tk (hk:∀ i,i<n->κ' i=κ i):∀ (v:V) (c:Value),Pr n v=true->VR S w v κ c->VR S w v κ' c
 | .val _,_,_,hv=>hv
 | .str _,_,_,hv=>hv
 | .agg cs,_,hb,hv=>by
  obtain ⟨ca,e,hv⟩:=hv;exact ⟨ca,e,Hy hk cs _ hb hv⟩
 | .tup cs,_,hb,hv=>by
  obtain ⟨ca,e,hv⟩:=hv;exact ⟨ca,e,Hy hk cs _ hb hv⟩
 | .fn f cs,_,hb,hv=>by
  obtain ⟨ca,e,hv⟩:=hv;exact ⟨ca,e,Hy hk cs _ hb hv⟩
 | .nilS,_,_,hv=>hv
 | .sl _ _ _,_,_,hv=>hv
 | .slr _ _ _ _,_,_,hv=>hv
 | .pp _,_,_,hv=>hv
 | .ptr id _,_,hb,hv=>by
  obtain ⟨g,h1,h2⟩:=hv;exact ⟨g,by rw [hk id (Nat.blt_eq ▸ hb)]; exact h1,h2⟩
 | .ref id,_,hb,hv=>⟨by rw [hk id (Nat.blt_eq ▸ hb)]; exact hv.1,hv.2⟩
 | .ept id _ _ _,_,hb,hv=>by
  obtain ⟨g,m,cap,h1,h2⟩:=hv;exact ⟨g,m,cap,by rw [hk id (Nat.blt_eq ▸ hb)]; exact h1,h2⟩
 | .rct id _,_,hb,hv=>by
  obtain ⟨g,m,cap,h1,h2⟩:=hv;exact ⟨g,m,cap,by rw [hk id (Nat.blt_eq ▸ hb)]; exact h1,h2⟩
 | .jref id,_,hb,hv=>by
  obtain ⟨ms,h1,h2⟩:=hv;exact ⟨ms,by rw [hk id (Nat.blt_eq ▸ hb)]; exact h1,h2⟩
 | .jept id _ _ _,_,hb,hv=>by
  obtain ⟨g,m,cap,ms,h1,h2⟩:=hv;exact ⟨g,m,cap,ms,by rw [hk id (Nat.blt_eq ▸ hb)]; exact h1,h2⟩
 | .anym,_,_,hv=>hv
 | .mmap id _,_,hb,hv=>by
  obtain ⟨o,ms,h1,h2⟩:=hv;exact ⟨o,ms,by rw [hk id (Nat.blt_eq ▸ hb)]; exact h1,h2⟩
 | .mref id _,_,hb,hv=>by
  obtain ⟨o,ms,h1,h2⟩:=hv;exact ⟨o,ms,by rw [hk id (Nat.blt_eq ▸ hb)]; exact h1,h2⟩
 | .mept id _ _ _ _,_,hb,hv=>by
  obtain ⟨o,ms,g,m,cap,h1,h2⟩:=hv;exact ⟨o,ms,g,m,cap,by rw [hk id (Nat.blt_eq ▸ hb)]; exact h1,h2⟩
 | .und,_,_,_=>trivial
theorem Hy (hk:∀ i,i<n->κ' i=κ i):∀ (vs:List V) (l:List Value),Pr.belows n vs=true->VRs S w vs κ l->VRs S w vs κ' l
 | [],_,_,hv=>hv
 | v::vs,_,hb,hv=>by
  simp only [Pr.belows] at hb;split at hb
  ·rename_i hbv
   obtain ⟨x,l',e,h1,h2⟩:=hv;exact ⟨x,l',e,Tk hk v _ hbv h1,Hy hk vs _ hb h2⟩
  ·cases hb
end
theorem Oc:∀ (ks:List Bool) (vs:List V) (l:List Value),VRs S w vs κ l->VRs S w (V9 ks vs) κ l
 | [],[],_,hv=>hv
 | [],_::_,_,hv=>hv
 | _::_,[],_,hv=>hv
 | b::ks,v::vs,_,hv=>by
  obtain ⟨x,l',e,h1,h2⟩:=hv;refine ⟨x,l',e,?_,Oc ks vs _ h2⟩;cases b
  ·trivial
  ·exact h1
theorem XL (hk:∀ i,i<n->κ' i=κ i) (v:V) (c:Value) (h:VR S w v κ c):VR S w (Q1 n v) κ' c:=by
 unfold Q1;split
 ·rename_i hb
  exact Tk hk v c hb h
 ·trivial
theorem Hx (hk:∀ i,i<n->κ' i=κ i):∀ (vs:List V) (l:List Value),VRs S w vs κ l->VRs S w (C7 n vs) κ' l
 | [],_,h=>h
 | v::vs,_,h=>by
  obtain ⟨x,l',e,h1,h2⟩:=h;exact ⟨x,l',e,XL hk v _ h1,Hx hk vs _ h2⟩
theorem Hj:∀ (l:List Blk) (i:Nat),(CX n l)[i]? = (l[i]?).map (Hk n)
 | [],i=>by simp [CX]
 | b::l,0=>by simp [CX]
 | b::l,i+1=>by simpa [CX] using Hj l i
theorem JX:∀ (l:List Blk),(CX n l).length=l.length
 | []=>rfl
 | b::l=>by simp [CX,JX l]
end
theorem Oq {n g:Nat} {v:Option Value} {b:Blk}:inBlk v g (Hk n b)↔inBlk v g b:=by cases b <;> exact Iff.rfl
theorem Ot {n:Nat} {b:Blk}:CM (Hk n b)->BG (Hk n b) b:=by
 cases b with
 | xrow lk e s n g=>exact λh=>BG.refl h
 | saved vs=>exact λ_=>⟨vs,rfl⟩
 | _=>intro h; rcases h with ⟨_,_,_,_,h⟩ | ⟨_,h⟩ <;> simp [Hk] at h
theorem QZ {Γ:Cx0} (ks:List Bool) (n:Nat) (st:St):LE Γ st (IE ks n st):=by
 intro κ S a w hr;have hk:∀ i,i<n->(λi=>if i<n then κ i else none) i=κ i:=λi hi=>by simp [hi]
 have hget:∀ (i:Nat) (bl:Blk),(CX n (st.h.take n))[i]? = some bl->i<n∧∃ b0,st.h[i]? = some b0∧Hk n b0=bl:=by
  intro i bl h;rw [Hj,List.getElem?_take] at h;split at h
  ·rename_i hin
   rw [Option.map_eq_some_iff] at h;exact ⟨hin,h⟩
  ·cases h
 have hown:∀ i b,AB (λi=>if i<n then κ i else none) (CX n (st.h.take n)) i b->AB κ st.h i b:=by
  rintro i b ⟨bl,q1,q2⟩
  obtain ⟨hi,b0,q3,rfl⟩:=hget i bl q1;refine ⟨b0,q3,?_⟩;rw [Oq] at q2;simpa [hi] using q2
 refine ⟨λi=>if i<n then κ i else none,S,⟨⟨?_,?_,?_,?_⟩,hr.env,Hx hk _ _ (Oc ks _ _ hr.tmps),hr.defers⟩,
  ⟨rfl,rfl,rfl,Nat.le_refl _,λ_ _ _=>rfl,λi b hb=>.inl ⟨i,hown i b hb⟩,λ_ hb=>.inl hb,λ_ hb=>hb,
   IZ (Nat.le_refl _) (λ_ _ _=>rfl) (λi b hb _=>⟨i,hown i b hb,λe s m g hh=>⟨e,s,m,g,?_,Nat.le_refl _⟩⟩) (λ_ _ _ _ _ _ _ _=>DV.refl _ _ _),λi bl hi hf=>?_⟩⟩
 rotate_left 4
 ·obtain ⟨bl,q1,q2⟩:=hb
  obtain ⟨hi,b0,q3,q4⟩:=hget i bl q1;show (CX n (st.h.take n))[i]? = _;rw [Hj,List.getElem?_take,if_pos hi,hh];rfl
 ·obtain ⟨hin,b0,q1,rfl⟩:=hget i bl hi
  exact ⟨if_pos hin,b0,q1,Ot hf⟩
 ·intro i b hi
  obtain ⟨hin,b0,q1,q2⟩:=hget i b hi;rw [if_pos hin];have:=hr.good.blk i b0 q1;cases b0 with
  | cells cs =>subst q2;obtain ⟨g,e,ca,p1,p2,p3⟩:=this;exact ⟨g,e,ca,p1,p2,Hx hk cs _ p3⟩
  | saved vs =>subst q2;obtain ⟨l,p1,p3⟩:=this;exact ⟨l,p1,Hx hk vs _ p3⟩
  | row _ _ _ _=>subst q2; exact this
  | imap _ _ _=>subst q2; exact this
  | xrow _ _ _ _ _=>subst q2; exact this
  | jag _=>subst q2; exact this
  | dead=>subst q2; trivial
 ·intro i j g hij hi hj
  exact hr.good.sep i j g hij (hown i g hi) (hown j g hj)
 ·intro b hb
  exact ⟨(hr.good.out b hb).1,λi hi=>(hr.good.out b hb).2 i (hown i b hi)⟩
 ·intro i hi
  show (if i<n then κ i else none)=none
  split
  ·rename_i hin
   refine hr.good.dom i ?_;have hi:(CX n (st.h.take n)).length <= i:=hi;rw [JX,List.length_take] at hi;omega
  ·rfl
inductive LRun (Γ:Cx0) (f:St->T (Ex×St)):St->Ex×St->Prop where
 | stop {st st1 st2:St} {e:Ex}:(f st).sem=some (e,st1)->e ≠ .nm->LE Γ st1 st2->LRun Γ f st (e,st2)
 | next {st st1 st2:St} {r:Ex×St}:(f st).sem=some (.nm,st1)->LE Γ st1 st2->LRun Γ f st2 r->LRun Γ f st r
 | weak {st st1:St} {r:Ex×St}:LE Γ st st1->LRun Γ f st1 r->LRun Γ f st r
abbrev Mn (τ:List Ty) (Γ:Cx) (c:Code) (id:Nat):=LRun Γ.base λst=>AL τ Γ c id st
theorem Iy {Γ:Cx0} {f:St->T (Ex×St)} {l:Lp}:∀ {m:Nat} {st:St} {r:Ex×St},(A4 f l m st).sem=some r->LRun Γ f st r
 | 0,_,_,h=>by cases h
 | m+1,st,r,h=>by
  obtain ⟨⟨e,st1⟩,h1,h2⟩:=Af h;cases e with
  | nm=>exact .next h1 (QZ _ _ _) (Iy h2)
  | ex i =>have:=Aa h2;subst this;exact .stop h1 (by simp) (QZ _ _ _)
  | rt =>have:=Aa h2;subst this;exact .stop h1 (by simp) (QZ _ _ _)
section
variable {P:Program} {τ:List Ty} (hτ:TabOK P τ) {Γ:Cx}
def Ce (Γ:Cx):Prop:=∀ id f st r,(Γ.loop id f st).sem=some r->LRun Γ.base f st r
def Jg:Ex->Exit
 | .nm=>.normal
 | .ex i=>.exit i
 | .rt=>.ret
def Tg (Γ:Cx) (κ:Aq) (S:Nat->Prop) (h:List Blk) (w:World) (r:Ex×St) (Q:Exit->Act->World->Prop):Prop :=
 ∀ κ' S' a' w',Rel Γ.base κ' S' r.2 a' w'->Ext κ S h w κ' S' r.2.h w'->Q (Jg r.1) a' w'
theorem Tg.ext {κ κ':Aq} {S S':Nat->Prop} {h h':List Blk} {w w':World} {r:Ex×St} {Q:Exit->Act->World->Prop} (hw:Tg Γ κ S h w r Q) (e:Ext κ S h w κ' S' h' w'):Tg Γ κ' S' h' w' r Q :=
 λκ'' S'' a'' w'' hr e'=>hw κ'' S'' a'' w'' hr (e.trans e')
theorem Tv {e:Ex} (he:e ≠ .nm) {N:Act->World->Prop} {Q:Exit->Act->World->Prop} {a:Act} {w:World} (h:Q (Jg e) a w):Exit.then N Q (Jg e) a w:=by
 cases e <;> first | exact absurd rfl he | exact h
include hτ in
theorem Ml (hm:P.follows .mixedOrders=true) (hΓ:Bl P Γ.base) (hΛ:Ce Γ):∀ (c:Code) (id:Nat) (st:St) (r:Ex×St) (κ:Aq) (S:Nat->Prop) (a:Act) (w:World) (Q:Exit->Act->World->Prop),
  Rel Γ.base κ S st a w->(AL τ Γ c id st).sem=some r->Tg Γ κ S st.h w r Q->c.wp P Q a w:=by
 intro c
 induction c with
 | skip =>intro id st r κ S a w Q hr h hw;have:=Aa h;subst this;exact wp_skip (hw κ S a w hr (Ext.refl _ _ _ _))
 | region i ops draw =>
  intro id st r κ S a w Q hr h hw;simp only [AL] at h;split at h
  ·obtain ⟨st',h1,h2⟩:=Af h
   have:=Aa h2;subst this;exact WW (P:=P) hτ hΓ hr h1 hw
  ·split at h
   ·rename_i hd
    split at h
    ·split at h
     ·rename_i hc
      obtain ⟨st1,h1,h3⟩:=Af h;obtain ⟨st',h4,h2⟩:=Af h3;have:=Aa h2;subst this;exact MA (P:=P) hτ hm hΓ hr hd hc h1 h4 hw
     ·cases h
    ·obtain ⟨_,_,_,h⟩:=HN h
     have hl:=IR h;refine (M9 (P:=P) (Q:=Q) hτ hm hΓ hr hd h ?_).2;intro κ' S' a' w' r1 r2;have:=hw κ' S' a' w' r1 r2;rw [hl] at this;exact this
   ·cases h
 | seq x y ihx ihy =>
  intro id st r κ S a w Q hr h hw;obtain ⟨⟨e,st1⟩,h1,h2⟩:=Af h;refine wp_seq (ihx id st (e,st1) κ S a w _ hr h1 ?_);intro κ' S' a' w' hr' he';cases e with
  | nm=>exact ihy id st1 r κ' S' a' w' Q hr' h2 (hw.ext he')
  | ex j =>have:=Aa h2;subst this;exact hw κ' S' a' w' hr' he'
  | rt =>have:=Aa h2;subst this;exact hw κ' S' a' w' hr' he'
 | cond x t e iht ihe =>
  intro id st r κ S a w Q hr h hw;simp only [AL] at h;split at h
  ·rename_i b hb
   have hx:=Br hr.env hr.tmps x;rw [hb] at hx;have hx:=Bu hx;cases b with
   | false=>exact wp_cond_false hx (ihe id st r κ S a w Q hr h hw)
   | true=>exact wp_cond_true hx (iht id st r κ S a w Q hr h hw)
  ·cases h
 | block i c ih =>
  intro id st r κ S a w Q hr h hw;obtain ⟨⟨e,st1⟩,h1,h2⟩:=Af h;refine wp_block (ih i st (e,st1) κ S a w _ hr h1 ?_);intro κ' S' a' w' hr' he';cases e with
  | nm =>have:=Aa h2;subst this;exact hw κ' S' a' w' hr' he'
  | ex j =>
   simp only at h2;split at h2
   ·rename_i hj
    have hj:j=i:=Nat.eq_of_beq_eq_true hj;have:=Aa h2;subst this;show (if j=i then Q .normal a' w' else Q (.exit j) a' w')
    rw [if_pos hj];exact hw κ' S' a' w' hr' he'
   ·rename_i hj
    have hj:j ≠ i:=Nat.ne_of_beq_eq_false hj;have:=Aa h2;subst this;show (if j=i then Q .normal a' w' else Q (.exit j) a' w')
    rw [if_neg hj];exact hw κ' S' a' w' hr' he'
  | rt =>have:=Aa h2;subst this;exact hw κ' S' a' w' hr' he'
 | loop c ih =>
  intro id st r κ S a w Q hr h hw;have hrun:Mn τ Γ c id st r:=hΛ _ _ _ _ h;have key:∀ (st:St) (r:Ex×St),Mn τ Γ c id st r->∃ n,∀ κ S a w,Rel Γ.base κ S st a w->Tg Γ κ S st.h w r Q->Code.rounds P c Q n a w:=by
   intro st r hrun
   induction hrun with
   | stop h1 hne hle =>rename_i st st1 st2 e;refine ⟨1,λκ S a w hr hw=>ih id st (e,st1) κ S a w _ hr h1 ?_⟩;intro κ' S' a' w' hr' he';obtain ⟨κ2,S2,hr2,he2⟩:=hle κ' S' a' w' hr';exact Tv hne (hw κ2 S2 a' w' hr2 (he'.trans he2))
   | next h1 hle _ ihr =>rename_i st st1 st2 r _;obtain ⟨n,hn⟩:=ihr;refine ⟨n+1,λκ S a w hr hw=>ih id st (.nm,st1) κ S a w _ hr h1 ?_⟩;intro κ' S' a' w' hr' he';obtain ⟨κ2,S2,hr2,he2⟩:=hle κ' S' a' w' hr';exact hn κ2 S2 a' w' hr2 (hw.ext (he'.trans he2))
   | weak hle _ ihr =>obtain ⟨n,hn⟩:=ihr;refine ⟨n,λκ S a w hr hw=>?_⟩;obtain ⟨κ2,S2,hr2,he2⟩:=hle κ S a w hr;exact hn κ2 S2 a w hr2 (hw.ext he2)
  obtain ⟨n,hn⟩:=key st r hrun;exact wp_loop_rounds n (hn κ S a w hr hw)
 | exit i =>intro id st r κ S a w Q hr h hw;have:=Aa h;subst this;exact wp_exit (hw κ S a w hr (Ext.refl _ _ _ _))
 | ret =>intro id st r κ S a w Q hr h hw;have:=Aa h;subst this;exact wp_ret (hw κ S a w hr (Ext.refl _ _ _ _))
 | _ =>intro id st r κ S a w Q hr h hw;cases h
include hτ in
theorem Vz {st:St} {κ:Aq} {S:Nat->Prop} {a:Act} {w:World} (hr:Rel Γ.base κ S st a w) {g:ResultVar->Sem Value} (g1:∀ t,g (.tmp t)=pure (a.tmps.getD t undef))
  (g2:∀ p t,g (.cell p t)=do loadVar t (<- asAddr (a.tmps.getD p undef))):∀ {l:List ResultVar} {vs:List V},WV τ st l=some vs ->
  ∃ cs,(l.mapM g).run P w = .ok cs w∧VRs S w vs κ cs
 | [],vs,h=>by
  simp [WV] at h;subst h;exact ⟨[],by simp,rfl⟩
 | x::l,vs,h=>by
  simp only [WV] at h;split at h
  ·rename_i v us h1 h2
   simp at h;subst h;obtain ⟨cs,h3,h4⟩:=Vz hr g1 g2 h2;have hx:∃ c,(g x).run P w = .ok c w∧VR S w v κ c:=by
    cases x with
    | tmp t =>simp only [Agi,Option.some.injEq] at h1;subst h1;have:=hr.tmps.nth t undef;rw [BW] at this;exact ⟨_,by rw [g1]; rfl,this⟩
    | cell p t =>
     simp only [Agi] at h1;split at h1
     ·rename_i id off hp
      split at h1
      ·rename_i cells hh
       have hpv:=hr.tmps.nth p undef;rw [hp,BW] at hpv;obtain ⟨gb,e,ca,_,hcx,hgw,hrc⟩:=Lj hr.good hh hpv;obtain ⟨c,_,h5,h6,_⟩:=Dt (P:=P) hτ h1 hrc;refine ⟨c,?_,h5⟩;have:=h6 gb 0 (λj u hj=>by
        rw [Nat.zero_add,cell_of_row w gb j ca e (0,0) hgw];simpa using hj)
       simp only [Nat.zero_add] at this;rw [g2];simp only [hcx,asAddr,Sem.run_bind,Sem.run_pure,Result.andThen_ok,this]
      ·cases h1
     ·cases h1
   obtain ⟨c,h5,h6⟩:=hx;refine ⟨c::cs,?_,⟨c,cs,rfl,h6,h4⟩⟩;simp only [List.mapM_cons,Sem.run_bind,h5,h3,Result.andThen_ok,Sem.run_pure]
  ·cases h
def YK (a:Act):ResultVar->Sem Value
 | .tmp t=>pure (a.tmps.getD t undef)
 | .cell p t=>do loadVar t (<- asAddr (a.tmps.getD p undef))
include hτ in
theorem OE {st:St} {κ:Aq} {S:Nat->Prop} {a:Act} {w:World} (hr:Rel Γ.base κ S st a w) {fn:Func} {v:V} (h:Iq τ fn st=some v) :
  ∃ c,(results fn a.tmps).run P w = .ok c w∧VR S w v κ c:=by
 unfold Iq at h;have hrun:∀ vs,WV τ st fn.results.toList=some vs->∃ cs:List Value,(results fn a.tmps).run P w = .ok (if h:cs.toArray.size=1 then cs.toArray[0] else .tuple cs.toArray) w∧VRs S w vs κ cs:=by
  intro vs hvs;obtain ⟨cs,h1,h2⟩:=Vz (P:=P) hτ hr (g:=YK a) (λ_=>rfl) (λ_ _=>rfl) hvs;refine ⟨cs,?_,h2⟩;show ((fn.results.mapM (YK a) >>= λvs=>pure (if h:vs.size=1 then vs[0] else .tuple vs)):Sem Value).run P w=_
  rw [Sem.run_bind,Array.mapM_eq_mapM_toList,Sem.run_map,h1];rfl
 split at h
 ·rename_i u hu
  simp at h;subst h;obtain ⟨cs,h1,h2⟩:=hrun _ hu;obtain ⟨c,l',rfl,h3,h4⟩:=h2;have h4:l'=[]:=h4;subst h4;exact ⟨c,by rw [h1]; simp,h3⟩
 ·rename_i vs hne hu
  simp at h;subst h;obtain ⟨cs,h1,h2⟩:=hrun _ hu;refine ⟨.tuple cs.toArray,?_,⟨cs,rfl,h2⟩⟩;rw [h1,dif_neg];intro hsz;have hl:=h2.length;have:cs.length=1:=by simpa using hsz
  rw [this] at hl;cases vs with
  | nil=>simp at hl
  | cons u us =>
   cases us with
   | nil=>exact hne u rfl
   | cons _ _=>simp at hl
 ·cases h
theorem K9 {S:Nat->Prop} {w:World} {κ:Aq}:∀ n,VRs S w (Mv n) κ (List.replicate n undef)
 | 0=>rfl
 | n+1=>⟨undef,List.replicate n undef,rfl,rfl,K9 n⟩
include hτ in
theorem NC (hm:P.follows .mixedOrders=true) (hΓ:Bl P Γ.base) (hΛ:Ce Γ) {f:FuncId} {fn:Func} {c:Code} (hf:P.funcs[f]? = some fn) (hb:fn.body=some c)
  {κ:Aq} {S:Nat->Prop} {h:List Blk} {w:World} {vs:List V} {cs:List Value} {v:V} {h':List Blk}
  (hg:Good κ S h w) (hE:Ee Γ.base S w) (hv:VRs S w vs κ cs) (he:(Ak τ Γ fn vs h).sem=some (v,h')) :
  Calls P f cs.toArray w λe w'=>∃ c κ' S',e = .returned c∧Good κ' S' h' w'∧VR S' w' v κ' c∧Ext κ S h w κ' S' h' w':=by
 unfold Ak at he;rw [hb] at he;obtain ⟨⟨e,st⟩,h1,h2⟩:=Af he;refine calls_of_wp hf hb ?_;have hlen:=hv.length;have hr:Rel Γ.base κ S ⟨vs++Mv (Nat.sub fn.ntmps vs.length),h⟩ { tmps:=cs.toArray++Array.replicate (fn.ntmps-cs.toArray.size) undef,defers:=[] } w:=by
  refine ⟨hg,hE,?_,rfl⟩;have:=hv.append (K9 (S:=S) (w:=w) (κ:=κ) (Nat.sub fn.ntmps vs.length));have e2:Nat.sub fn.ntmps vs.length=fn.ntmps-cs.length:=by rw [hlen]; rfl
  rw [e2] at this ⊢;simpa using this
 refine Ml (P:=P) hτ hm hΓ hΛ c 0 _ (e,st) κ S _ w _ hr h1 ?_;intro κ' S' a' w' hr' he';have fin:Iq τ fn st=some v->st.h=h'->a'.defers=[]∧∃ u,(results fn a'.tmps).run P w' = .ok u w'∧∃ c κ' S',(Ending.returned u) = .returned c∧Good κ' S' h' w'∧VR S' w' v κ' c∧Ext κ S h w κ' S' h' w':=by
  intro q1 q2;subst q2;obtain ⟨u,q3,q4⟩:=OE (P:=P) hτ hr' q1;exact ⟨hr'.defers,u,q3,u,κ',S',rfl,hr'.good,q4,he'⟩
 cases e with
 | ex j=>cases h2
 | nm =>
  simp only at h2;split at h2
  ·rename_i u hu
   have:=Aa h2;simp only [Prod.mk.injEq] at this;obtain ⟨rfl,rfl⟩:=this;exact fin hu rfl
  ·cases h2
 | rt =>
  simp only at h2;split at h2
  ·rename_i u hu
   have:=Aa h2;simp only [Prod.mk.injEq] at this;obtain ⟨rfl,rfl⟩:=this;exact fin hu rfl
  ·cases h2
end
theorem Eh {α β:Type} {t t':T α} {f f':α->T β} (h:t.sem=t'.sem) (hf:∀ a,(f a).sem=(f' a).sem):(t.bind f).sem=(t'.bind f').sem:=by
 rw [CC,CC,h];cases t'.sem with
 | none=>rfl
 | some a=>exact hf a
theorem SG {τ:List Ty} {Γ:Cx} {L L':Nat->(St->T (Ex×St))->St->T (Ex×St)} (h:∀ id f f' st,(∀ st,(f st).sem=(f' st).sem)->(L id f st).sem=(L' id f' st).sem) :
  ∀ (c:Code) (id:Nat) (st:St),(AL τ { Γ with loop:=L } c id st).sem=(AL τ { Γ with loop:=L' } c id st).sem:=by
 intro c
 induction c with
 | skip=>intro id st; rfl
 | region i ops draw=>intro id st; rfl
 | seq a b iha ihb =>
  intro id st;refine Eh (iha id st) λr=>?_;cases r.1 with
  | nm=>exact ihb id r.2
  | ex j=>rfl
  | rt=>rfl
 | cond x a b iha ihb =>
  intro id st;show (match ev ⟨Γ.call,Γ.glob⟩ st x with | .val (.bool q)=>T.br q (AL τ { Γ with loop:=L } a id st) (AL τ { Γ with loop:=L } b id st) | _=>.fail).sem=(match ev ⟨Γ.call,Γ.glob⟩ st x with | .val (.bool q)=>T.br q (AL τ { Γ with loop:=L' } a id st) (AL τ { Γ with loop:=L' } b id st) | _=>.fail).sem
  split
  ·simp only [T.sem]
   rw [iha id st,ihb id st]
  ·rfl
 | block i c ih =>
  intro id st;refine Eh (ih i st) λr=>?_;cases r.1 with
  | nm=>rfl
  | ex j=>rfl
  | rt=>rfl
 | loop c ih =>intro id st;exact h id _ _ st (ih id)
 | exit i=>intro id st; rfl
 | ret=>intro id st; rfl
 | _=>intro id st; rfl
end Go.Sy
