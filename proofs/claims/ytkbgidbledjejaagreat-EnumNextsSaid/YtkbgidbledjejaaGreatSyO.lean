/-
  Code, loops and functions: what the evaluator says of a function's body is what a call of it comes to. Conditions: the table of types is the program's; callees and loops do what the evaluator is told.
-/
import Derived.Test.YtkbgidbledjejaaGreatSyNd
namespace Go.Sy
variable {dl:List Deferred} {ro:Option Nat}
section
variable {Γ:Cx0}
def LE (Γ:Cx0) (st st':St):Prop:=∀ dl κ S a w,Rel dl Γ κ S st a w->∃ κ' S',Rel dl Γ κ' S' st' a w∧Ext κ S st.h w κ' S' st'.h w
theorem LE.refl (st:St):LE Γ st st:=λ_ κ S _ _ h=>⟨κ,S,h,Ext.refl _ _ _ _⟩
theorem LE.trans {st st' st'':St} (h:LE Γ st st') (h':LE Γ st' st''):LE Γ st st'':=λdl κ S a w hr=>by
 obtain ⟨κ1,S1,r1,e1⟩:=h dl κ S a w hr;obtain ⟨κ2,S2,r2,e2⟩:=h' dl κ1 S1 a w r1;exact ⟨κ2,S2,r2,e1.trans e2⟩
end
section
variable {S:Nat->Prop} {w:World} {κ κ':Ai} {n:Nat}
theorem W4:∀ (ks:List Bool) (vs:List V) (l:List Value),VRs S w vs κ l->VRs S w (Adn ks vs) κ l
 | [],[],_,hv=>hv
 | [],_::_,_,hv=>hv
 | _::_,[],_,hv=>hv
 | b::ks,v::vs,_,hv=>by
  obtain ⟨x,l',e,h1,h2⟩:=hv;refine ⟨x,l',e,?_,W4 ks vs _ h2⟩;cases b
  ·trivial
  ·exact h1
theorem Abq (hk:∀ i,i<n->κ' i=κ i) (v:V) (c:Value) (h:VR S w v κ c):VR S w (Us n v) κ' c:=by
 unfold Us;split
 ·rename_i hb
  exact Rq hk v c hb h
 ·trivial
theorem Hi (hk:∀ i,i<n->κ' i=κ i):∀ (vs:List V) (l:List Value),VRs S w vs κ l->VRs S w (Kl n vs) κ' l
 | [],_,h=>h
 | v::vs,_,h=>by
  obtain ⟨x,l',e,h1,h2⟩:=h;exact ⟨x,l',e,Abq hk v _ h1,Hi hk vs _ h2⟩
theorem IK:∀ (l:List Blk) (i:Nat),(D5 n l)[i]? = (l[i]?).map (IL n)
 | [],i=>by simp [D5]
 | b::l,0=>by simp [D5]
 | b::l,i+1=>by simpa [D5] using IK l i
theorem Mh:∀ (l:List Blk),(D5 n l).length=l.length
 | []=>rfl
 | b::l=>by simp [D5,Mh l]
end
theorem RF {n g:Nat} {v:Option Value} {b:Blk}:inBlk v g (IL n b)↔inBlk v g b:=by cases b <;> exact Iff.rfl
theorem RG {n:Nat} {b:Blk}:CB (IL n b)->Bz (IL n b) b:=by
 cases b with
 | xrow lk e s n g=>exact λh=>Bz.refl h
 | saved vs=>exact λ_=>⟨vs,rfl⟩
 | _=>intro h; rcases h with ⟨_,_,_,_,h⟩ | ⟨_,h⟩ <;> simp [IL] at h
theorem HG {Γ:Cx0} (ks:List Bool) (n:Nat) (st:St):LE Γ st (FK ks n st):=by
 intro dl κ S a w hr;have hk:∀ i,i<n->(λi=>if i<n then κ i else none) i=κ i:=λi hi=>by simp [hi]
 have hget:∀ (i:Nat) (bl:Blk),(D5 n (st.h.take n))[i]? = some bl->i<n∧∃ b0,st.h[i]? = some b0∧IL n b0=bl:=by
  intro i bl h;rw [IK,List.getElem?_take] at h;split at h
  ·rename_i hin
   rw [Option.map_eq_some_iff] at h;exact ⟨hin,h⟩
  ·cases h
 have hown:∀ i b,A3 (λi=>if i<n then κ i else none) (D5 n (st.h.take n)) i b->A3 κ st.h i b:=by
  rintro i b ⟨bl,q1,q2⟩
  obtain ⟨hi,b0,q3,rfl⟩:=hget i bl q1;refine ⟨b0,q3,?_⟩;rw [RF] at q2;simpa [hi] using q2
 refine ⟨λi=>if i<n then κ i else none,S,⟨⟨?_,?_,?_,?_⟩,hr.env,Hi hk _ _ (W4 ks _ _ hr.tmps),hr.defers⟩,
  ⟨rfl,rfl,rfl,Nat.le_refl _,λ_ _ _=>rfl,λi b hb=>.inl ⟨i,hown i b hb⟩,λ_ hb=>.inl hb,λ_ hb=>hb,
   I4 (Nat.le_refl _) (λ_ _ _=>rfl) (λi b hb _=>⟨i,hown i b hb,λe s m g hh=>⟨e,s,m,g,?_,Nat.le_refl _⟩⟩) (λ_ _ _ _ _ _ _ _=>E5.refl _ _ _),λi bl hi hf=>?_⟩⟩
 rotate_left 4
 ·obtain ⟨bl,q1,q2⟩:=hb
  obtain ⟨hi,b0,q3,q4⟩:=hget i bl q1;show (D5 n (st.h.take n))[i]? = _;rw [IK,List.getElem?_take,if_pos hi,hh];rfl
 ·obtain ⟨hin,b0,q1,rfl⟩:=hget i bl hi
  exact ⟨if_pos hin,b0,q1,RG hf⟩
 ·intro i b hi
  obtain ⟨hin,b0,q1,q2⟩:=hget i b hi;rw [if_pos hin];have:=hr.good.blk i b0 q1;cases b0 with
  | cells cs =>subst q2;obtain ⟨g,e,ca,p1,p2,p3⟩:=this;exact ⟨g,e,ca,p1,p2,Hi hk cs _ p3⟩
  | saved vs =>
   subst q2;rcases this with rfl | ⟨l,p1,p3⟩
   ·exact .inl rfl
   ·exact .inr ⟨l,p1,Hi hk vs _ p3⟩
  | rng cd ts q =>subst q2;obtain ⟨l,r,p1,p2,p3,p4,p5⟩:=this;exact ⟨l,r,p1,p2,p3,p4,Hi hk ts _ p5⟩
  | row _ _ _ _=>subst q2; exact this
  | imap _ _ _=>subst q2; exact this
  | gmap _ _ _ _=>subst q2; exact this
  | xrow _ _ _ _ _=>subst q2; exact this
  | jag _=>subst q2; exact this
  | dead=>subst q2; trivial
 ·intro i j g hij hi hj
  exact hr.good.sep i j g hij (hown i g hi) (hown j g hj)
 ·intro b hb
  exact ⟨(hr.good.out b hb).1,λi hi=>(hr.good.out b hb).2 i (hown i b hi)⟩
 ·intro i hi
  show (if i<n then κ i else none)=none
  split
  ·rename_i hin
   refine hr.good.dom i ?_;have hi:(D5 n (st.h.take n)).length <= i:=hi;rw [Mh,List.length_take] at hi;omega
  ·rfl
inductive LRun (Γ:Cx0) (f:St->T (Ex×St)):St->Ex×St->Prop where
 | stop {st st1 st2:St} {e:Ex}:(f st).sem=some (e,st1)->e ≠ .nm->LE Γ st1 st2->LRun Γ f st (e,st2)
 | next {st st1 st2:St} {r:Ex×St}:(f st).sem=some (.nm,st1)->LE Γ st1 st2->LRun Γ f st2 r->LRun Γ f st r
 | weak {st st1:St} {r:Ex×St}:LE Γ st st1->LRun Γ f st1 r->LRun Γ f st r
inductive LRunF (Γ:Cx0) (f:St->T (Ex×St)) (st:St):Ex×St->Prop where
 | run {r:Ex×St} (h:LRun Γ f st r):LRunF Γ f st r
 | Dv {st1:St} {q:Nat} {p:Nat×Nat×Nat×(Nat->V)} {e:Ex} {st2:St} (hle:LE Γ st st1) (hp:(Zd st1.h (nth st1.t q)).sem=some p) (h:LRun Γ f (AcT st1 q p) (e,st2)) (ha:MF st1.h st2.h=true) :
  LRunF Γ f st (e,⟨Uc st1.h.length st2.t,st1.h⟩)
abbrev ZQ (τ:List Ty) (Γ:Cx) (c:Code) (id:Nat):=LRun Γ.base λst=>A8 τ Γ c id st
theorem GA {Γ:Cx0} {f:St->T (Ex×St)} {l:Lp}:∀ {m:Nat} {st:St} {r:Ex×St},(Ax f l m st).sem=some r->LRun Γ f st r
 | 0,_,_,h=>by cases h
 | m+1,st,r,h=>by
  obtain ⟨⟨e,st1⟩,h1,h2⟩:=Ad h;cases e with
  | nm=>exact .next h1 (HG _ _ _) (GA h2)
  | ex i =>have:=Aa h2;subst this;exact .stop h1 (by simp) (HG _ _ _)
  | rt =>have:=Aa h2;subst this;exact .stop h1 (by simp) (HG _ _ _)
section
variable {P:Program} {τ:List Ty} (hτ:TabOK P τ) {Γ:Cx}
def Cb (Γ:Cx):Prop:=∀ id f st r,(Γ.loop id f st).sem=some r->LRunF Γ.base f st r
theorem V7 {Γ:Cx0} {κ:Ai} {S:Nat->Prop} {st:St} {a:Act} {w:World} {q:Nat} {p:Nat×Nat×Nat×(Nat->V)} (hr:Rel dl Γ κ S st a w) (hp:(Zd st.h (nth st.t q)).sem=some p) :
  ∃ κ0,Rel dl Γ κ0 S (AcT st q p) a w∧∀ κ' S' a' w' st2,Rel dl Γ κ' S' st2 a' w'->Ext κ0 S (AcT st q p).h w κ' S' st2.h w'->MF st.h st2.h=true->Rel dl Γ κ S ⟨Uc st.h.length st2.t,st.h⟩ a' w'∧Ext κ S st.h w κ S st.h w':=by
 obtain ⟨e,s,n,g⟩:=p;have hq:q<st.t.length:=Nat.lt_of_not_le λhge=>by
  rw [KL,List.getElem?_eq_none hge] at hp;cases hp
 have hv:=hr.tmps.nth q undef;obtain ⟨h1,hsl,h2⟩:=AaG hr.good hv hp;have hq':q<a.tmps.toList.length:=by rw [hr.tmps.length]; exact hq
 have hself:a.tmps.toList.set q (a.tmps.toList.getD q undef)=a.tmps.toList:=by
  rw [List.getD_eq_getElem?_getD,List.getElem?_eq_getElem hq',Option.getD_some,List.set_getElem_self]
 refine ⟨_,⟨h1,hr.env,?_,hr.defers⟩,λκ' S' a' w' st2 hr2 hx ha=>?_⟩
 ·have:=(VR.mono_go (λb hb=>⟨hb,rfl⟩) st.t _ _ _ (hr.good.addK_sub (a.tmps.toList.getD q undef)) hr.tmps).set q (v:=.ref st.h.length) (c:=a.tmps.toList.getD q undef) ⟨by simp [AZ],.inl hsl⟩
  rw [hself] at this;exact this
 ·obtain ⟨g1,g2⟩:=h2 κ' S' st2.h w' hx
  refine ⟨⟨g1,hr.env.ext hr.good g2,W5 (λi hi=>?_) _ _ hr2.tmps,hr2.defers⟩,g2⟩;rw [(hx.fix i _ (Oq _ _ ha i hi) (.inr ⟨_,rfl⟩)).1];unfold AZ;rw [if_neg (by omega)]
def Fo:Ex->Exit
 | .nm=>.normal
 | .ex i=>.exit i
 | .rt=>.ret
def Rm (dl:List Deferred) (Γ:Cx) (κ:Ai) (S:Nat->Prop) (h:List Blk) (w:World) (r:Ex×St) (Q:Exit->Act->World->Prop):Prop :=
 ∀ κ' S' a' w',Rel dl Γ.base κ' S' r.2 a' w'->Ext κ S h w κ' S' r.2.h w'->Q (Fo r.1) a' w'
theorem Rm.ext {κ κ':Ai} {S S':Nat->Prop} {h h':List Blk} {w w':World} {r:Ex×St} {Q:Exit->Act->World->Prop} (hw:Rm dl Γ κ S h w r Q) (e:Ext κ S h w κ' S' h' w'):Rm dl Γ κ' S' h' w' r Q :=
 λκ'' S'' a'' w'' hr e'=>hw κ'' S'' a'' w'' hr (e.trans e')
theorem Pn {e:Ex} (he:e ≠ .nm) {N:Act->World->Prop} {Q:Exit->Act->World->Prop} {a:Act} {w:World} (h:Q (Fo e) a w):Exit.then N Q (Fo e) a w:=by
 cases e <;> first | exact absurd rfl he | exact h
include hτ in
theorem E1 (hm:P.follows .mixedOrders=true) (hΓ:Bb P Γ.base) (hΛ:Cb Γ):∀ (c:Code) (id:Nat) (st:St) (r:Ex×St) (κ:Ai) (S:Nat->Prop) (a:Act) (w:World) (Q:Exit->Act->World->Prop),
  Rel dl Γ.base κ S st a w->(A8 τ Γ c id st).sem=some r->(ro=none ∨ DZ c=true)->Rm dl Γ κ S st.h w r Q->c.wpIn (Ez ro) 0 P Q a w:=by
 intro c
 induction c with
 | skip =>intro id st r κ S a w Q hr h hnd hw;have:=Aa h;subst this;exact wpIn_skip (hw κ S a w hr (Ext.refl _ _ _ _))
 | region i ops draw =>
  intro id st r κ S a w Q hr h hnd hw;simp only [A8] at h;split at h
  ·obtain ⟨st',h1,h2⟩:=Ad h
   have:=Aa h2;subst this;exact Aas (P:=P) hτ hΓ hr h1 hw
  ·split at h
   ·rename_i hd
    split at h
    ·split at h
     ·rename_i hc
      obtain ⟨st1,h1,h3⟩:=Ad h;obtain ⟨st',h4,h2⟩:=Ad h3;have:=Aa h2;subst this;exact P8 (P:=P) hτ hm hΓ hr hd hc h1 h4 hnd hw
     ·split at h
      ·rename_i s hs
       have hl:=Jl h;refine Ox (P:=P) (Q:=Q) hτ hm hΓ hr hd hs h hnd λκ' S' a' w' r1 r2=>?_;have:=hw κ' S' a' w' r1 r2;rw [hl] at this;exact this
      ·obtain ⟨_,_,_,h⟩:=Fh h
       have hl:=FO h;refine (Jt (P:=P) (Q:=Q) hτ hm hΓ hr hd h hnd ?_).2;intro κ' S' a' w' r1 r2;have:=hw κ' S' a' w' r1 r2;rw [hl] at this;exact this
    ·obtain ⟨_,_,_,h⟩:=Fh h
     have hl:=FO h;refine (Jt (P:=P) (Q:=Q) hτ hm hΓ hr hd h hnd ?_).2;intro κ' S' a' w' r1 r2;have:=hw κ' S' a' w' r1 r2;rw [hl] at this;exact this
   ·cases h
 | seq x y ihx ihy =>
  intro id st r κ S a w Q hr h hnd hw;obtain ⟨⟨e,st1⟩,h1,h2⟩:=Ad h;have hx:ro=none ∨ DZ x=true:=hnd.imp (λh=>h) λh=>(Bool.and_eq_true_iff.1 h).1;have hy:ro=none ∨ DZ y=true:=hnd.imp (λh=>h) λh=>(Bool.and_eq_true_iff.1 h).2;refine wpIn_seq (ihx id st (e,st1) κ S a w _ hr h1 hx ?_);intro κ' S' a' w' hr' he';cases e with
  | nm=>exact ihy id st1 r κ' S' a' w' Q hr' h2 hy (hw.ext he')
  | ex j =>have:=Aa h2;subst this;exact hw κ' S' a' w' hr' he'
  | rt =>have:=Aa h2;subst this;exact hw κ' S' a' w' hr' he'
 | cond x t e iht ihe =>
  intro id st r κ S a w Q hr h hnd hw;simp only [A8] at h;split at h
  ·rename_i b hb
   have hx:=AT hr.env hr.tmps x;rw [hb] at hx;have hx:=Bl hx;cases b with
   | false=>exact wpIn_cond_false hx (ihe id st r κ S a w Q hr h (hnd.imp (λh=>h) λh=>(Bool.and_eq_true_iff.1 h).2) hw)
   | true=>exact wpIn_cond_true hx (iht id st r κ S a w Q hr h (hnd.imp (λh=>h) λh=>(Bool.and_eq_true_iff.1 h).1) hw)
  ·cases h
 | block i c ih =>
  intro id st r κ S a w Q hr h hnd hw;obtain ⟨⟨e,st1⟩,h1,h2⟩:=Ad h;refine wpIn_block (ih i st (e,st1) κ S a w _ hr h1 hnd ?_);intro κ' S' a' w' hr' he';cases e with
  | nm =>have:=Aa h2;subst this;exact hw κ' S' a' w' hr' he'
  | ex j =>
   simp only at h2;split at h2
   ·rename_i hj
    have hj:j=i:=Nat.eq_of_beq_eq_true hj;have:=Aa h2;subst this;show (if j=i then Q .normal a' w' else Q (.exit j) a' w')
    rw [if_pos hj];exact hw κ' S' a' w' hr' he'
   ·rename_i hj
    have hj:j ≠ i:=Nat.ne_of_beq_eq_false hj;have:=Aa h2;subst this;show (if j=i then Q .normal a' w' else Q (.exit j) a' w')
    rw [if_neg hj];exact hw κ' S' a' w' hr' he'
  | rt =>have:=Aa h2;subst this;exact hw κ' S' a' w' hr' he'
 | loop c ih =>
  intro id st r κ S a w Q hr h hnd hw;have hrun:LRunF Γ.base (λst=>A8 τ Γ c id st) st r:=hΛ _ _ _ _ h;have key:∀ (st:St) (r:Ex×St),ZQ τ Γ c id st r->∃ n,∀ κ S a w,Rel dl Γ.base κ S st a w->Rm dl Γ κ S st.h w r Q->Code.roundsIn (Ez ro) 0 P c Q n a w:=by
   intro st r hrun
   induction hrun with
   | stop h1 hne hle =>rename_i st st1 st2 e;refine ⟨1,λκ S a w hr hw=>ih id st (e,st1) κ S a w _ hr h1 hnd ?_⟩;intro κ' S' a' w' hr' he';obtain ⟨κ2,S2,hr2,he2⟩:=hle dl κ' S' a' w' hr';exact Pn hne (hw κ2 S2 a' w' hr2 (he'.trans he2))
   | next h1 hle _ ihr =>rename_i st st1 st2 r _;obtain ⟨n,hn⟩:=ihr;refine ⟨n+1,λκ S a w hr hw=>ih id st (.nm,st1) κ S a w _ hr h1 hnd ?_⟩;intro κ' S' a' w' hr' he';obtain ⟨κ2,S2,hr2,he2⟩:=hle dl κ' S' a' w' hr';exact hn κ2 S2 a' w' hr2 (hw.ext (he'.trans he2))
   | weak hle _ ihr =>obtain ⟨n,hn⟩:=ihr;refine ⟨n,λκ S a w hr hw=>?_⟩;obtain ⟨κ2,S2,hr2,he2⟩:=hle dl κ S a w hr;exact hn κ2 S2 a w hr2 (hw.ext he2)
  cases hrun with
  | run hrun =>obtain ⟨n,hn⟩:=key st r hrun;exact wpIn_loop_rounds n (hn κ S a w hr hw)
  | Dv hle hp hrun ha =>obtain ⟨n,hn⟩:=key _ _ hrun;obtain ⟨κ1,S1,hr1,he1⟩:=hle dl κ S a w hr;obtain ⟨κ0,hr0,hback⟩:=V7 hr1 hp;refine wpIn_loop_rounds n (hn κ0 S1 a w hr0 λκ' S' a' w' hr' he'=>?_);obtain ⟨b1,b2⟩:=hback κ' S' a' w' _ hr' he' ha;exact hw κ1 S1 a' w' b1 (he1.trans b2)
 | exit i =>intro id st r κ S a w Q hr h hnd hw;have:=Aa h;subst this;exact wpIn_exit (hw κ S a w hr (Ext.refl _ _ _ _))
 | ret =>intro id st r κ S a w Q hr h hnd hw;have:=Aa h;subst this;exact wpIn_ret (hw κ S a w hr (Ext.refl _ _ _ _))
 | _ =>intro id st r κ S a w Q hr h hnd hw;cases h
include hτ in
theorem YG {st:St} {κ:Ai} {S:Nat->Prop} {a:Act} {w:World} (hr:Rel dl Γ.base κ S st a w) {g:ResultVar->Sem Value} (g1:∀ t,g (.tmp t)=pure (a.tmps.getD t undef))
  (g2:∀ p t,g (.cell p t)=do loadVar t (<- asAddr (a.tmps.getD p undef))):∀ {l:List ResultVar} {vs:List V},Aar τ st l=some vs ->
  ∃ cs,(l.mapM g).run P w = .ok cs w∧VRs S w vs κ cs
 | [],vs,h=>by
  simp [Aar] at h;subst h;exact ⟨[],by simp,rfl⟩
 | x::l,vs,h=>by
  simp only [Aar] at h;split at h
  ·rename_i v us h1 h2
   simp at h;subst h;obtain ⟨cs,h3,h4⟩:=YG hr g1 g2 h2;have hx:∃ c,(g x).run P w = .ok c w∧VR S w v κ c:=by
    cases x with
    | tmp t =>simp only [Aj1,Option.some.injEq] at h1;subst h1;have:=hr.tmps.nth t undef;rw [B5] at this;exact ⟨_,by rw [g1]; rfl,this⟩
    | cell p t =>
     simp only [Aj1] at h1;split at h1
     ·rename_i id off hp
      split at h1
      ·rename_i cells hh
       have hpv:=hr.tmps.nth p undef;rw [hp,B5] at hpv;obtain ⟨gb,e,ca,_,hcx,hgw,hrc⟩:=Kq hr.good hh hpv;obtain ⟨c,_,h5,h6,_⟩:=Ew (P:=P) hτ h1 hrc;refine ⟨c,?_,h5⟩;have:=h6 gb 0 (λj u hj=>by
        rw [Nat.zero_add,cell_of_row w gb j ca e (0,0) hgw];simpa using hj)
       simp only [Nat.zero_add] at this;rw [g2];simp only [hcx,asAddr,Sem.run_bind,Sem.run_pure,Result.andThen_ok,this]
      ·cases h1
     ·cases h1
   obtain ⟨c,h5,h6⟩:=hx;refine ⟨c::cs,?_,⟨c,cs,rfl,h6,h4⟩⟩;simp only [List.mapM_cons,Sem.run_bind,h5,h3,Result.andThen_ok,Sem.run_pure]
  ·cases h
def AcB (a:Act):ResultVar->Sem Value
 | .tmp t=>pure (a.tmps.getD t undef)
 | .cell p t=>do loadVar t (<- asAddr (a.tmps.getD p undef))
include hτ in
theorem HM {st:St} {κ:Ai} {S:Nat->Prop} {a:Act} {w:World} (hr:Rel dl Γ.base κ S st a w) {fn:Func} {v:V} (h:DU τ fn st=some v) :
  ∃ c,(results fn a.tmps).run P w = .ok c w∧VR S w v κ c:=by
 unfold DU at h;have hrun:∀ vs,Aar τ st fn.results.toList=some vs->∃ cs:List Value,(results fn a.tmps).run P w = .ok (if h:cs.toArray.size=1 then cs.toArray[0] else .tuple cs.toArray) w∧VRs S w vs κ cs:=by
  intro vs hvs;obtain ⟨cs,h1,h2⟩:=YG (P:=P) hτ hr (g:=AcB a) (λ_=>rfl) (λ_ _=>rfl) hvs;refine ⟨cs,?_,h2⟩;show ((fn.results.mapM (AcB a) >>= λvs=>pure (if h:vs.size=1 then vs[0] else .tuple vs)):Sem Value).run P w=_
  rw [Sem.run_bind,Array.mapM_eq_mapM_toList,Sem.run_map,h1];rfl
 split at h
 ·rename_i u hu
  simp at h;subst h;obtain ⟨cs,h1,h2⟩:=hrun _ hu;obtain ⟨c,l',rfl,h3,h4⟩:=h2;have h4:l'=[]:=h4;subst h4;exact ⟨c,by rw [h1]; simp,h3⟩
 ·rename_i vs hne hu
  simp at h;subst h;obtain ⟨cs,h1,h2⟩:=hrun _ hu;refine ⟨.tuple cs.toArray,?_,⟨cs,rfl,h2⟩⟩;rw [h1,dif_neg];intro hsz;have hl:=h2.length;have:cs.length=1:=by simpa using hsz
  rw [this] at hl;cases vs with
  | nil=>simp at hl
  | cons u us =>
   cases us with
   | nil=>exact hne u rfl
   | cons _ _=>simp at hl
 ·cases h
theorem G5 {S:Nat->Prop} {w:World} {κ:Ai}:∀ n,VRs S w (F8 n) κ (List.replicate n undef)
 | 0=>rfl
 | n+1=>⟨undef,List.replicate n undef,rfl,rfl,G5 n⟩
include hτ in
theorem If (hm:P.follows .mixedOrders=true) (hΓ:Bb P Γ.base) (hΛ:Cb Γ) {f:FuncId} {fn:Func} {c:Code} (hf:P.funcs[f]? = some fn) (hb:fn.body=some c)
  {κ:Ai} {S:Nat->Prop} {h:List Blk} {w:World} {vs:List V} {cs:List Value} {v:V} {h':List Blk}
  (hg:Good κ S h w) (hE:CC Γ.base S w) (hv:VRs S w vs κ cs) (he:(Ar τ Γ fn vs h).sem=some (v,h')) :
  Calls P f cs.toArray w λe w'=>∃ c κ' S',e = .returned c∧Good κ' S' h' w'∧VR S' w' v κ' c∧Ext κ S h w κ' S' h' w':=by
 unfold Ar at he;rw [hb] at he;obtain ⟨⟨e,st⟩,h1,h2⟩:=Ad he;refine calls_of_wp hf hb ?_;have hlen:=hv.length;have hr:Rel [] Γ.base κ S ⟨vs++F8 (Nat.sub fn.ntmps vs.length),h⟩ { tmps:=cs.toArray++Array.replicate (fn.ntmps-cs.toArray.size) undef,defers:=[] } w:=by
  refine ⟨hg,hE,?_,rfl⟩;have:=hv.append (G5 (S:=S) (w:=w) (κ:=κ) (Nat.sub fn.ntmps vs.length));have e2:Nat.sub fn.ntmps vs.length=fn.ntmps-cs.length:=by rw [hlen]; rfl
  rw [e2] at this ⊢;simpa using this
 refine wpIn_wide.1 (E1 (P:=P) (ro:=none) hτ hm hΓ hΛ c 0 _ (e,st) κ S _ w _ hr h1 (.inl rfl) ?_);intro κ' S' a' w' hr' he';have fin:DU τ fn st=some v->st.h=h'->a'.defers=[]∧∃ u,(results fn a'.tmps).run P w' = .ok u w'∧∃ c κ' S',(Ending.returned u) = .returned c∧Good κ' S' h' w'∧VR S' w' v κ' c∧Ext κ S h w κ' S' h' w':=by
  intro q1 q2;subst q2;obtain ⟨u,q3,q4⟩:=HM (P:=P) hτ hr' q1;exact ⟨hr'.defers,u,q3,u,κ',S',rfl,hr'.good,q4,he'⟩
 cases e with
 | ex j=>cases h2
 | nm =>
  simp only at h2;split at h2
  ·rename_i u hu
   have:=Aa h2;simp only [Prod.mk.injEq] at this;obtain ⟨rfl,rfl⟩:=this;exact fin hu rfl
  ·cases h2
 | rt =>
  simp only at h2;split at h2
  ·rename_i u hu
   have:=Aa h2;simp only [Prod.mk.injEq] at this;obtain ⟨rfl,rfl⟩:=this;exact fin hu rfl
  ·cases h2
end
theorem Fa {α β:Type} {t t':T α} {f f':α->T β} (h:t.sem=t'.sem) (hf:∀ a,(f a).sem=(f' a).sem):(t.bind f).sem=(t'.bind f').sem:=by
 rw [CJ,CJ,h];cases t'.sem with
 | none=>rfl
 | some a=>exact hf a
theorem Wj {τ:List Ty} {Γ:Cx} {L L':Nat->(St->T (Ex×St))->St->T (Ex×St)} (h:∀ id f f' st,(∀ st,(f st).sem=(f' st).sem)->(L id f st).sem=(L' id f' st).sem) :
  ∀ (c:Code) (id:Nat) (st:St),(A8 τ { Γ with loop:=L } c id st).sem=(A8 τ { Γ with loop:=L' } c id st).sem:=by
 intro c
 induction c with
 | skip=>intro id st; rfl
 | region i ops draw=>intro id st; rfl
 | seq a b iha ihb =>
  intro id st;refine Fa (iha id st) λr=>?_;cases r.1 with
  | nm=>exact ihb id r.2
  | ex j=>rfl
  | rt=>rfl
 | cond x a b iha ihb =>
  intro id st;show (match ev ⟨Γ.call,Γ.glob⟩ st x with | .val (.bool q)=>T.br q (A8 τ { Γ with loop:=L } a id st) (A8 τ { Γ with loop:=L } b id st) | _=>.fail).sem=(match ev ⟨Γ.call,Γ.glob⟩ st x with | .val (.bool q)=>T.br q (A8 τ { Γ with loop:=L' } a id st) (A8 τ { Γ with loop:=L' } b id st) | _=>.fail).sem
  split
  ·simp only [T.sem]
   rw [iha id st,ihb id st]
  ·rfl
 | block i c ih =>
  intro id st;refine Fa (ih i st) λr=>?_;cases r.1 with
  | nm=>rfl
  | ex j=>rfl
  | rt=>rfl
 | loop c ih =>intro id st;exact h id _ _ st (ih id)
 | exit i=>intro id st; rfl
 | ret=>intro id st; rfl
 | _=>intro id st; rfl
end Go.Sy
