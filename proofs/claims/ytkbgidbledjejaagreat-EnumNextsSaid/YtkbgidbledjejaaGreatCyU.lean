/-
  A function that ends with a scope of labels: it is gone through from jump to jump. Conditions: as before.
-/
import Derived.Test.YtkbgidbledjejaaGreatSyOg
import Derived.ScopeJumps
import Derived.Test.YtkbgidbledjejaaGreatEnE
import Derived.Test.YtkbgidbledjejaaGreatEnG
namespace Go.Sy
variable {dl:List Deferred}
def Fq (τ:List Ty) (Γ:Cx) (N:Nat) (ks:List Bool) (n:Nat):Code->Nat->St->T (Ex×St)
 | .skip,_,st=>.leaf (.nm,st)
 | .region i ops draw,id,st=>(A8 τ Γ (.region i ops draw) id st).bind λr=>match r.1 with
  | .nm=>.leaf (.nm,r.2)
  | _=>.fail
 | .seq a b,id,st=>(Fq τ Γ N ks n a id st).bind λr=>match r.1 with
  | .nm=>Fq τ Γ N ks n b id r.2
  | .ex j=>.leaf (.ex j,r.2)
  | .rt=>.leaf (.rt,r.2)
 | .cond c x y,id,st=>match ev Γ.base st c with
  | .val (.bool b)=>.br b (Fq τ Γ N ks n x id st) (Fq τ Γ N ks n y id st)
  | _=>.fail
 | .block i c,id,st=>match c with
  | .loop _=>(A8 τ Γ (.block i c) id st).bind λr=>match r.1 with
   | .ex _=>.fail
   | e=>.leaf (e,r.2)
  | _=>.fail
 | .label _,_,st=>.leaf (.nm,FK ks n st)
 | .goto k,_,st=>.leaf (.ex (Nat.add N k),st)
 | .ret,_,st=>.leaf (.rt,st)
 | _,_,_=>.fail
def L6 (c:Code) (l:Nat):Code:=match findLabel c l with
 | some d=>d
 | none=>.refuse ""
def TD (τ:List Ty) (Γ:Cx) (N:Nat) (c:Code) (ks:List Bool) (n:Nat):Nat->Ex×St->T (Ex×St)
 | 0,_=>.fail
 | m+1,p=>match p.1 with
  | .ex i=>match Nat.ble N i with
   | true=>(Fq τ Γ N ks n (L6 c (Nat.sub i N)) 0 (FK ks n p.2)).bind (TD τ Γ N c ks n m)
   | false=>.fail
  | e=>.leaf (e,FK ks n p.2)
def Xd (τ:List Ty) (Γ:Cx) (N:Nat) (c:Code) (ks:List Bool) (n:Nat) (m:Nat) (st:St):T (Ex×St) :=
 (Fq τ Γ N ks n c 0 st).bind λp=>.ask (TD τ Γ N c ks n m p).sem .leaf
section
variable {P:Program} {τ:List Ty} (hτ:TabOK P τ) {Γ:Cx}
def Zw (N:Nat):Ex->Exit
 | .ex i=>.goto (i-N)
 | e=>Fo e
include hτ in
theorem Wi (hm:P.follows .mixedOrders=true) (hΓ:Bb P Γ.base) (hΛ:Cb Γ) {N:Nat} {ks:List Bool} {n:Nat}:∀ (c:Code) (id:Nat) (st:St) (r:Ex×St) (κ:Ai) (S:Nat->Prop) (a:Act) (w:World) (Q:Exit->Act->World->Prop),
  Rel dl Γ.base κ S st a w->(Fq τ Γ N ks n c id st).sem=some r->(∀ κ' S' a' w',Rel dl Γ.base κ' S' r.2 a' w'->Ext κ S st.h w κ' S' r.2.h w'->Q (Zw N r.1) a' w')->c.wp P Q a w:=by
 intro c
 induction c with
 | skip =>intro id st r κ S a w Q hr h hw;have:=Aa h;subst this;exact wp_skip (hw κ S a w hr (Ext.refl _ _ _ _))
 | region i ops draw =>
  intro id st r κ S a w Q hr h hw;obtain ⟨⟨e,st1⟩,h1,h2⟩:=Ad h;cases e with
  | nm =>have:=Aa h2;subst this;exact wpIn_wide.1 (E1 (P:=P) (ro:=none) hτ hm hΓ hΛ _ id st (.nm,st1) κ S a w Q hr h1 (.inl rfl) hw)
  | ex i=>cases h2
  | rt=>cases h2
 | seq x y ihx ihy =>
  intro id st r κ S a w Q hr h hw;obtain ⟨⟨e,st1⟩,h1,h2⟩:=Ad h;refine wp_seq (ihx id st (e,st1) κ S a w _ hr h1 ?_);intro κ' S' a' w' hr' he';cases e with
  | nm=>exact ihy id st1 r κ' S' a' w' Q hr' h2 λκ'' S'' a'' w'' q1 q2=>hw κ'' S'' a'' w'' q1 (he'.trans q2)
  | ex j =>have:=Aa h2;subst this;exact hw κ' S' a' w' hr' he'
  | rt =>have:=Aa h2;subst this;exact hw κ' S' a' w' hr' he'
 | cond x t e iht ihe =>
  intro id st r κ S a w Q hr h hw;simp only [Fq] at h;split at h
  ·rename_i b hb
   have hx:=AT hr.env hr.tmps x;rw [hb] at hx;have hx:=Bl hx;cases b with
   | false=>exact wp_cond_false hx (ihe id st r κ S a w Q hr h hw)
   | true=>exact wp_cond_true hx (iht id st r κ S a w Q hr h hw)
  ·cases h
 | block i c ih =>
  intro id st r κ S a w Q hr h hw;simp only [Fq] at h;split at h
  ·obtain ⟨⟨e,st1⟩,h1,h2⟩:=Ad h
   cases e with
   | nm =>have:=Aa h2;subst this;exact wpIn_wide.1 (E1 (P:=P) (ro:=none) hτ hm hΓ hΛ _ id st (.nm,st1) κ S a w Q hr h1 (.inl rfl) hw)
   | ex i=>cases h2
   | rt =>have:=Aa h2;subst this;exact wpIn_wide.1 (E1 (P:=P) (ro:=none) hτ hm hΓ hΛ _ id st (.rt,st1) κ S a w Q hr h1 (.inl rfl) hw)
  ·cases h
 | label k =>intro id st r κ S a w Q hr h hw;have:=Aa h;subst this;obtain ⟨κ0,S0,hr0,he0⟩:=HG ks n st dl κ S a w hr;exact wp_label (hw κ0 S0 a w hr0 he0)
 | goto k =>intro id st r κ S a w Q hr h hw;have:=Aa h;subst this;refine wp_goto ?_;have:=hw κ S a w hr (Ext.refl _ _ _ _);rw [show Zw N (.ex (Nat.add N k)) = .goto k from congrArg Exit.goto (Nat.add_sub_cancel_left N k)] at this;exact this
 | ret =>intro id st r κ S a w Q hr h hw;have:=Aa h;subst this;exact wp_ret (hw κ S a w hr (Ext.refl _ _ _ _))
 | _ =>intro id st r κ S a w Q hr h hw;cases h
theorem Aal {c:Code} {l N id n:Nat} {ks:List Bool} {st:St} {r:Ex×St} (h:(Fq τ Γ N ks n (L6 c l) id st).sem=some r):∃ d,findLabel c l=some d∧L6 c l=d:=by
 unfold L6 at h ⊢;split
 ·rename_i d hd
  exact ⟨d,hd,rfl⟩
 ·rename_i hd
  rw [hd] at h;cases h
include hτ in
theorem YA (hm:P.follows .mixedOrders=true) (hΓ:Bb P Γ.base) (hΛ:Cb Γ) {N:Nat} {c:Code} {ks:List Bool} {n:Nat} {Q:Exit->Act->World->Prop} (b:Frame) (k:List Item) (cs:List Frame) :
  ∀ (m:Nat) (e:Ex) (st:St) (r:Ex×St) (κ:Ai) (S:Nat->Prop) (a:Act) (w:World),(TD τ Γ N c ks n m (e,st)).sem=some r->Rel dl Γ.base κ S st a w->Rm dl Γ κ S st.h w r Q ->
   (match e with
    | .ex i=>∃ d,findLabel c (i-N)=some d∧∃ e a' w',Q e a' w'∧Arrives P (lone (b.at a (.code d :: .inScope c::k)) cs w) b k cs e a' w'
    | e=>Q (Fo e) a w)
 | 0,_,_,_,_,_,_,_,h,_,_=>by cases h
 | m+1,.nm,st,r,κ,S,a,w,h,hr,hw=>by
  have:=Aa h;subst this;obtain ⟨κ0,S0,hr0,he0⟩:=HG ks n st dl κ S a w hr;exact hw κ0 S0 a w hr0 he0
 | m+1,.rt,st,r,κ,S,a,w,h,hr,hw=>by
  have:=Aa h;subst this;obtain ⟨κ0,S0,hr0,he0⟩:=HG ks n st dl κ S a w hr;exact hw κ0 S0 a w hr0 he0
 | m+1,.ex i,st,r,κ,S,a,w,h,hr,hw=>by
  simp only [TD] at h;split at h
  rotate_left
  ·cases h
  obtain ⟨⟨e1,st1⟩,h1,h2⟩:=Ad h;obtain ⟨d,hd,hs⟩:=Aal h1;rw [hs] at h1;refine ⟨d,hd,?_⟩;obtain ⟨κ0,S0,hr0,he0⟩:=HG ks n st dl κ S a w hr;obtain ⟨e',a₁,w₁,hq,harr⟩:=Wi (P:=P) hτ hm hΓ hΛ d 0 _ (e1,st1) κ0 S0 a w (λe a' w'=>e=Zw N e1∧∃ κ' S',Rel dl Γ.base κ' S' st1 a' w'∧Ext κ0 S0 (FK ks n st).h w κ' S' st1.h w') hr0 h1 (λκ' S' a' w' q1 q2=>⟨rfl,κ',S',q1,q2⟩) b (.inScope c::k) cs;obtain ⟨rfl,κ2,S2,hr2,he2⟩:=hq;have:=YA hm hΓ hΛ b k cs m e1 st1 r κ2 S2 a₁ w₁ h2 hr2 (hw.ext (he0.trans he2));cases e1 with
  | nm=>exact ⟨.normal,a₁,w₁,this,Steps.trans harr (.one step_inScope)⟩
  | rt=>exact ⟨.ret,a₁,w₁,this,harr⟩
  | ex j =>
   obtain ⟨d',hd',e₂,a₂,w₂,hq₂,harr₂⟩:=this;have hg:gotoIn (j-N) (.inScope c::k)=some (.code d' :: .inScope c::k):=by simp [gotoIn,hd']
   exact ⟨e₂,a₂,w₂,hq₂,.of_steps (harr _ hg) harr₂⟩
include hτ in
theorem Aan (hm:P.follows .mixedOrders=true) (hΓ:Bb P Γ.base) (hΛ:Cb Γ) {N:Nat} {c:Code} {ks:List Bool} {n m:Nat} {st:St} {r:Ex×St} {κ:Ai} {S:Nat->Prop} {a:Act} {w:World} {Q:Exit->Act->World->Prop}
  (hr:Rel dl Γ.base κ S st a w) (h:(Xd τ Γ N c ks n m st).sem=some r) (hw:Rm dl Γ κ S st.h w r Q):(Code.scope c).wp P Q a w:=by
 intro b k cs;obtain ⟨⟨e1,st1⟩,h1,h2⟩:=Ad h;have h2:(TD τ Γ N c ks n m (e1,st1)).sem=some r:=by
  cases hx:(TD τ Γ N c ks n m (e1,st1)).sem with
  | none=>rw [hx] at h2; cases h2
  | some r' =>rw [hx] at h2;exact h2
 obtain ⟨e',a₁,w₁,hq,harr⟩:=Wi (P:=P) hτ hm hΓ hΛ c 0 _ (e1,st1) κ S a w (λe a' w'=>e=Zw N e1∧∃ κ' S',Rel dl Γ.base κ' S' st1 a' w'∧Ext κ S st.h w κ' S' st1.h w') hr h1 (λκ' S' a' w' q1 q2=>⟨rfl,κ',S',q1,q2⟩) b (.inScope c::k) cs;obtain ⟨rfl,κ2,S2,hr2,he2⟩:=hq;have:=YA (P:=P) hτ hm hΓ hΛ b k cs m e1 st1 r κ2 S2 a₁ w₁ h2 hr2 (hw.ext he2);cases e1 with
 | nm=>exact ⟨.normal,a₁,w₁,this,.of_steps (.one step_scope) (Steps.trans harr (.one step_inScope))⟩
 | rt=>exact ⟨.ret,a₁,w₁,this,.of_steps (.one step_scope) harr⟩
 | ex j =>
  obtain ⟨d',hd',e₂,a₂,w₂,hq₂,harr₂⟩:=this;have hg:gotoIn (j-N) (.inScope c::k)=some (.code d' :: .inScope c::k):=by simp [gotoIn,hd']
  exact ⟨e₂,a₂,w₂,hq₂,.of_steps (.head step_scope (harr _ hg)) harr₂⟩
end
theorem Be {α β:Type} {f:α->T β} {t:T α} {a:α} {r:β} (h:t.sem=some a) (h2:(f a).sem=some r):(t.bind f).sem=some r:=by rw [CJ,h]; exact h2
def Fu:Code->Nat->Code
 | .seq a b,l=>match findLabel a l with
  | some _=>Fu a l
  | none=>.seq a (Fu b l)
 | c,_=>c
def ApO (τ:List Ty) (Γ:Cx) (N:Nat) (ks:List Bool) (n:Nat) (d:Code) (id:Nat) (r:Ex×St):T (Ex×St):=match r.1 with
 | .nm=>Fq τ Γ N ks n d id r.2
 | .ex j=>.leaf (.ex j,r.2)
 | .rt=>.leaf (.rt,r.2)
theorem B6 {τ:List Ty} {Γ:Cx} {N l n:Nat} {ks:List Bool}:∀ {c d:Code} {id:Nat} {st:St} {r r':Ex×St},findLabel c l=some d->(Fq τ Γ N ks n (Fu c l) id st).sem=some r->(ApO τ Γ N ks n d id r).sem=some r'->(Fq τ Γ N ks n c id st).sem=some r'
 | .seq a b,d,id,st,r,r',hd,h1,h2=>by
  unfold findLabel at hd;unfold Fu at h1;unfold Fq;cases ha:findLabel a l with
  | some e =>
   rw [ha] at hd h1;simp only [Option.some.injEq] at hd;subst hd;obtain ⟨x,st1⟩:=r;cases x with
   | nm =>obtain ⟨q,h3,h4⟩:=Ad (show ((Fq τ Γ N ks n e id st1).bind _).sem=some r' from h2);exact Be (B6 ha h1 h3) h4
   | ex j=>exact Be (B6 (r':=(.ex j,st1)) ha h1 rfl) h2
   | rt=>exact Be (B6 (r':=(.rt,st1)) ha h1 rfl) h2
  | none =>
   rw [ha] at hd h1;obtain ⟨⟨x,st1⟩,h3,h4⟩:=Ad (show ((Fq τ Γ N ks n a id st).bind _).sem=some r from h1);refine Be h3 ?_;cases x with
   | nm=>exact B6 hd h4 h2
   | ex j=>cases Aa h4; exact h2
   | rt=>cases Aa h4; exact h2
 | .label k,d,id,st,r,r',hd,h1,h2=>by
  unfold findLabel at hd;split at hd
  ·cases hd
   cases Aa h1;exact h2
  ·cases hd
def QE (τ:List Ty) (Γ:Cx) (N:Nat) (ks:List Bool) (n m:Nat) (fn:Func) (vs:List V) (h:List Blk):A2 :=
 match fn.body with
 | some (.seq p (.scope c))=>(A8 τ Γ p 0 ⟨vs++F8 (Nat.sub fn.ntmps vs.length),h⟩).bind λq=>match q.1 with
  | .nm=>(Xd τ Γ N c ks n m q.2).bind λr =>
   match r.1 with
   | .ex _=>.fail
   | _=>match DU τ fn r.2 with
    | some v=>.leaf (v,r.2.h)
    | none=>.fail
  | _=>.fail
 | _=>.fail
theorem XQ {τ:List Ty} {Γ:Cx} {N n m:Nat} {ks:List Bool} {fn:Func} {vs:List V} {h:List Blk} {p c:Code} {q st:St} {r:Ex×St} {v:V} (hb:fn.body=some (.seq p (.scope c))) (h1:(A8 τ Γ p 0 ⟨vs++F8 (Nat.sub fn.ntmps vs.length),h⟩).sem=some (.nm,q)) (h2:(Fq τ Γ N ks n c 0 q).sem=some r) (h3:(TD τ Γ N c ks n m r).sem=some (.rt,st)) (hv:DU τ fn st=some v):(QE τ Γ N ks n m fn vs h).sem=some (v,st.h):=by
 unfold QE;rw [hb];refine Be h1 ?_;refine Be (a:=(.rt,st)) ?_ ?_
 ·unfold Xd
  refine Be h2 ?_;rw [h3];rfl
 ·show (match DU τ fn st with
   | some u=>T.leaf (u,st.h)
   | none=>.fail).sem=_
  rw [hv];rfl
theorem AaV {P:Program} {τ:List Ty} (hτ:TabOK P τ) {Γ:Cx} (hm:P.follows .mixedOrders=true) (hΓ:Bb P Γ.base) (hΛ:Cb Γ) {f:FuncId} {fn:Func} (hf:P.funcs[f]? = some fn) (hb:fn.body.isSome=true) (hn:(fn.name == "runtime.NumGoroutine")=false) {N n m:Nat} {ks:List Bool}:E4 P Γ.glob f (QE τ Γ N ks n m fn):=by
 refine ⟨⟨fn,hf,by simpa using hn,hb⟩,λvs cs κ S h w v h' hg hE hv he=>?_⟩;unfold QE at he;split at he
 rotate_left
 ·cases he
 rename_i p c hc;obtain ⟨⟨e1,st1⟩,h1,h2⟩:=Ad he;cases e1 with
 | ex i=>cases h2
 | rt=>cases h2
 | nm =>
  obtain ⟨⟨e,st⟩,h3,h4⟩:=Ad h2;refine calls_of_wp hf hc ?_;have hlen:=hv.length;have hr:Rel [] Γ.base κ S ⟨vs++F8 (Nat.sub fn.ntmps vs.length),h⟩ { tmps:=cs.toArray++Array.replicate (fn.ntmps-cs.toArray.size) undef,defers:=[] } w:=by
   refine ⟨hg,hE,?_,rfl⟩;have:=hv.append (G5 (S:=S) (w:=w) (κ:=κ) (Nat.sub fn.ntmps vs.length));have e2:Nat.sub fn.ntmps vs.length=fn.ntmps-cs.length:=by rw [hlen]; rfl
   rw [e2] at this ⊢;simpa using this
  refine wp_seq (wpIn_wide.1 (E1 (P:=P) (ro:=none) hτ hm hΓ hΛ p 0 _ (.nm,st1) κ S _ w _ hr h1 (.inl rfl) ?_));intro κ1 S1 a1 w1 hr1 he1;refine Aan (P:=P) hτ hm hΓ hΛ hr1 h3 ?_;intro κ' S' a' w' hr' he';have fin:DU τ fn st=some v->st.h=h'->a'.defers=[]∧∃ u,(results fn a'.tmps).run P w' = .ok u w'∧∃ c κ' S',(Ending.returned u) = .returned c∧Good κ' S' h' w'∧VR S' w' v κ' c∧Ext κ S h w κ' S' h' w':=by
   intro q1 q2;subst q2;obtain ⟨u,q3,q4⟩:=HM (P:=P) hτ hr' q1;exact ⟨hr'.defers,u,q3,u,κ',S',rfl,hr'.good,q4,he1.trans he'⟩
  cases e with
  | ex j=>cases h4
  | nm =>
   simp only at h4;split at h4
   ·rename_i u hu
    have:=Aa h4;simp only [Prod.mk.injEq] at this;obtain ⟨rfl,rfl⟩:=this;exact fin hu rfl
   ·cases h4
  | rt =>
   simp only at h4;split at h4
   ·rename_i u hu
    have:=Aa h4;simp only [Prod.mk.injEq] at this;obtain ⟨rfl,rfl⟩:=this;exact fin hu rfl
   ·cases h4
theorem GF {P:Program} {τ:List Ty} (hτ:TabOK P τ) {Γ:Cx} (hm:P.follows .mixedOrders=true) (hΓ:Bb P Γ.base) (hΛ:Cb Γ) {f:FuncId} {fn:Func} (hf:P.funcs[f]? = some fn) (hb:fn.body.isSome=true) (hn:(fn.name == "runtime.NumGoroutine")=false):E4 P Γ.glob f (Ar τ Γ fn):=by
 obtain ⟨c,hc⟩:=Option.isSome_iff_exists.1 hb;exact ⟨⟨fn,hf,by simpa using hn,hb⟩,λvs cs κ S h w v h' hg hE hv he=>If (P:=P) hτ hm hΓ hΛ hf hc hg hE hv he⟩
theorem E4.congr {P:Program} {G:Nat->V} {f:FuncId} {E E':List V->List Blk->A2} (h:E4 P G f E) (hE:∀ vs hp r,(E' vs hp).sem=some r->(E vs hp).sem=some r):E4 P G f E' :=
 ⟨h.1,λvs cs κ S hp w v h' h1 h2 h3 h4=>h.2 vs cs κ S hp w v h' h1 h2 h3 (hE vs hp _ h4)⟩
theorem E4.pure {P:Program} {G:Nat->V} {f:FuncId} {E:List V->List Blk->A2} (h:E4 P G f E):As P G f λvs=>AK (E vs []):=by
 refine ⟨h.1,λvs cs S w v h' hS hE hv he=>?_⟩;obtain ⟨⟨v1,h1⟩,q1,q2⟩:=Ad he;have q2:=Df q2;refine ⟨FD q2,(h.2 _ _ _ _ _ _ _ _ (Good.empty hS) hE hv q1).mono ?_⟩
 rintro e w' ⟨u,κ',S',rfl,g1,g2,g3⟩
 obtain ⟨κ2,p1,p2,p3⟩:=OA g1 g2 q2;refine ⟨u,κ2,S',rfl,p1,p2,Ext.ofNil g3.os g3.tape g3.output g3.size g3.keep (λi b hb=>?_) g3.sub g3.sup (FD q2)⟩;obtain ⟨j,hj⟩:=p3 i b hb;exact g3.own j b hj
end Go.Sy
namespace Go.Proofs.YtkbgidbledjejaaGreat.Ed
open Go.Sy
open Int (ofNat)
theorem AhY {i n:Nat} (h:i<n):ieq (ofNat n) 0=false:=by rw [show (0:Int)=ofNat 0 from rfl,FP,decide_eq_false (by omega)]
def Fx (n:Nat) (h:Nat->Int) (p i:Nat):Int:=h ((p+i) % n)
def K7 (n:Nat) (h:Nat->Int) (p q:Nat):Prop:=∃ s,s<n∧(∀ t,t<s->Fx n h p t=Fx n h q t)∧Fx n h p s<Fx n h q s
def Ga (n:Nat) (h:Nat->Int) (p:Nat):Prop:=p<n∧∀ q,q<n->¬ K7 n h q p
theorem G0 {n:Nat} {h:Nat->Int} {p:Nat}:¬ K7 n h p p:=by
 rintro ⟨s,_,_,h3⟩
 omega
theorem Od {n:Nat} {h:Nat->Int} {a b c:Nat} (h1:K7 n h a b) (h2:K7 n h b c):K7 n h a c:=by
 obtain ⟨s,s1,s2,s3⟩:=h1;obtain ⟨r,r1,r2,r3⟩:=h2;rcases Nat.lt_trichotomy s r with e | e | e
 ·exact ⟨s,s1,λt ht=>(s2 t ht).trans (r2 t (by omega)),by rw [<- r2 s e]; exact s3⟩
 ·subst e
  exact ⟨s,s1,λt ht=>(s2 t ht).trans (r2 t ht),by omega⟩
 ·exact ⟨r,r1,λt ht=>(s2 t (by omega)).trans (r2 t ht),by rw [s2 r e]; exact r3⟩
theorem Oe (n:Nat) (h:Nat->Int) (p q:Nat):∀ m,m <= n->(∃ s,s<m∧(∀ t,t<s->Fx n h p t=Fx n h q t)∧Fx n h p s ≠ Fx n h q s) ∨ ∀ t,t<m->Fx n h p t=Fx n h q t
 | 0,_=>.inr λt ht=>absurd ht (Nat.not_lt_zero t)
 | m+1,hm=>by
  rcases Oe n h p q m (by omega) with ⟨s,h1,h2,h3⟩ | h1
  ·exact .inl ⟨s,by omega,h2,h3⟩
  ·by_cases e:Fx n h p m=Fx n h q m
   ·refine .inr λt ht=>?_
    by_cases et:t=m
    ·rw [et]; exact e
    ·exact h1 t (by omega)
   ·exact .inl ⟨m,by omega,h1,e⟩
theorem AdQ {n:Nat} {h:Nat->Int} {p q:Nat} (hp:Ga n h p) (hq:Ga n h q):∀ t,t<n->Fx n h p t=Fx n h q t:=by
 rcases Oe n h p q n (Nat.le_refl n) with ⟨s,h1,h2,h3⟩ | h1
 ·rcases Int.lt_or_gt_of_ne h3 with e | e
  ·exact absurd ⟨s,h1,h2,e⟩ (hq.2 p hp.1)
  ·exact absurd ⟨s,h1,λt ht=>(h2 t ht).symm,e⟩ (hp.2 q hq.1)
 ·exact h1
theorem QD (n:Nat) (h:Nat->Int):∀ m,0<m->∃ p,p<m∧∀ q,q<m->¬ K7 n h q p
 | 0,hm=>absurd hm (Nat.lt_irrefl 0)
 | 1,_=>⟨0,by omega,λq hq=>by
   have:q=0:=by omega
   subst this;exact G0⟩
 | m+2,_=>by
  obtain ⟨p,h1,h2⟩:=QD n h (m+1) (by omega);by_cases e:K7 n h (m+1) p
  ·refine ⟨m+1,by omega,λq hq hl=>?_⟩
   by_cases eq:q=m+1
   ·subst eq; exact G0 hl
   ·exact h2 q (by omega) (Od hl e)
  ·refine ⟨p,by omega,λq hq hl=>?_⟩
   by_cases eq:q=m+1
   ·subst eq; exact e hl
   ·exact h2 q (by omega) hl
theorem YF (n:Nat) (h:Nat->Int) (a u:Nat):Fx n h (a % n) u=h ((a+u) % n):=by
 unfold Fx;rw [Nat.mod_add_mod]
theorem UX {n:Nat} {h:Nat->Int} {i j s:Nat} (hs:s<n) (h1:∀ t,t<s->h ((i+t) % n)=h ((j+t) % n)) (h2:h ((j+s) % n)<h ((i+s) % n)):∀ p,i <= p->p <= i+s->¬ Ga n h p:=by
 intro p hp1 hp2 hm;obtain ⟨hpn,hm⟩:=hm;refine hm ((j+(p-i)) % n) (Nat.mod_lt _ (by omega)) ⟨s-(p-i),by omega,λt ht=>?_,?_⟩
 ·rw [YF]
  unfold Fx;have:=h1 (p-i+t) (by omega);rw [show i+(p-i+t)=p+t by omega,show j+(p-i+t)=j+(p-i)+t by omega] at this;exact this.symm
 ·rw [YF]
  unfold Fx;rw [show j+(p-i)+(s-(p-i))=j+s by omega,show p+(s-(p-i))=i+s by omega];exact h2
theorem PI {n:Nat} {h:Nat->Int} {lo hi:Nat} (hlt:lo<hi) (h1:∀ u,u<n->h ((hi+u) % n)=h ((lo+u) % n)) (hno:∀ p,p<n->p<hi->p ≠ lo->¬ Ga n h p):∀ m p,p <= m->Ga n h p->Ga n h lo:=by
 intro m
 induction m with
 | zero =>
  intro p hp hm;by_cases e:p=lo
  ·rw [<- e]; exact hm
  ·exact absurd hm (hno p hm.1 (by omega) e)
 | succ m ih =>
  intro p hp hm;by_cases e:p=lo
  ·rw [<- e]; exact hm
  ·by_cases hph:p<hi
   ·exact absurd hm (hno p hm.1 hph e)
   ·have hpn:=hm.1
    have hr:∀ u,u<n->Fx n h p u=Fx n h (p-(hi-lo)) u:=λu _=>by
     unfold Fx;have:=h1 ((p-hi+u) % n) (Nat.mod_lt _ (by omega));rw [Nat.add_mod_mod,Nat.add_mod_mod,show hi+(p-hi+u)=p+u by omega,show lo+(p-hi+u)=p-(hi-lo)+u by omega] at this;exact this
    refine ih (p-(hi-lo)) (by omega) ⟨by omega,λq hq hl=>?_⟩;obtain ⟨s,s1,s2,s3⟩:=hl;exact hm.2 q hq ⟨s,s1,λt ht=>(s2 t ht).trans (hr t (by omega)).symm,by rw [hr s s1]; exact s3⟩
theorem XE (n:Nat) (h:Nat->Int) (hn:0<n):∀ q i t s,i ≠ t->min i t<n->i <= 2 * n->t <= 2 * n+1->s <= n->(∀ u,u<s->h ((i+u) % n)=h ((t+u) % n)) ->
  (∀ p,p<n->p<max i t->p ≠ min i t->¬ Ga n h p)->3 * n+1-(i+t+s)<q->Ga n h (E8 n h q i t s):=by
 intro q;obtain ⟨p0,hp0⟩:∃ p,Ga n h p:=by
  obtain ⟨p,h1,h2⟩:=QD n h n hn;exact ⟨p,h1,h2⟩
 have hp0n:=hp0.1
 induction q with
 | zero=>intro i t s _ _ _ _ _ _ _ hq; exact absurd hq (Nat.not_lt_zero _)
 | succ q ih =>
  intro i t s hne hmin hi ht hs heq hno hq;unfold E8;split
  ·rename_i hx
   have hmin0:∀ lo,lo=min i t->Ga n h lo->Ga n h (min (min i t) (n-1)):=λlo hlo hm=>by
    rw [show min (min i t) (n-1)=lo by omega]; exact hm
   by_cases c:n <= i ∨ n <= t
   ·refine hmin0 (min i t) rfl ?_
    by_cases e:p0=min i t
    ·rw [<- e]; exact hp0
    ·exact absurd hp0 (hno p0 hp0n (by omega) e)
   ·refine hmin0 (min i t) rfl ?_
    have hsn:s=n:=by omega
    subst hsn;by_cases c2:i<t
    ·rw [show min i t=i by omega]
     exact PI c2 (λu hu=>(heq u hu).symm) (λp hp h1 h2=>hno p hp (by omega) (by omega)) p0 p0 (Nat.le_refl _) hp0
    ·rw [show min i t=t by omega]
     exact PI (show t<i by omega) (λu hu=>heq u hu) (λp hp h1 h2=>hno p hp (by omega) (by omega)) p0 p0 (Nat.le_refl _) hp0
  ·rename_i hx
   split
   ·rename_i he
    refine ih i t (s+1) hne hmin hi ht (by omega) (λu hu=>?_) hno (by omega);by_cases eu:u=s
    ·rw [eu]; exact he
    ·exact heq u (by omega)
   ·rename_i he
    split
    ·rename_i hg
     have hsk:=UX (by omega) heq hg;split
     ·rename_i e
      exact ih (i+s+1) (t+1) 0 (by omega) (by omega) (by omega) (by omega) (by omega) (λu hu=>absurd hu (Nat.not_lt_zero u)) (λp hp h1 h2=>by
       by_cases hr:i <= p∧p <= i+s
       ·exact hsk p hr.1 hr.2
       ·exact hno p hp (by omega) (by omega)) (by omega)
     ·rename_i e
      exact ih (i+s+1) t 0 (by omega) (by omega) (by omega) (by omega) (by omega) (λu hu=>absurd hu (Nat.not_lt_zero u)) (λp hp h1 h2=>by
       by_cases hr:i <= p∧p <= i+s
       ·exact hsk p hr.1 hr.2
       ·exact hno p hp (by omega) (by omega)) (by omega)
    ·rename_i hg
     have hg2:h ((i+s) % n)<h ((t+s) % n):=by omega
     have hsk:=UX (by omega) (λu hu=>(heq u hu).symm) hg2;split
     ·rename_i e
      exact ih i (t+s+2) 0 (by omega) (by omega) (by omega) (by omega) (by omega) (λu hu=>absurd hu (Nat.not_lt_zero u)) (λp hp h1 h2=>by
       by_cases hr:t <= p∧p <= t+s
       ·exact hsk p hr.1 hr.2
       ·exact hno p hp (by omega) (by omega)) (by omega)
     ·rename_i e
      exact ih i (t+s+1) 0 (by omega) (by omega) (by omega) (by omega) (by omega) (λu hu=>absurd hu (Nat.not_lt_zero u)) (λp hp h1 h2=>by
       by_cases hr:t <= p∧p <= t+s
       ·exact hsk p hr.1 hr.2
       ·exact hno p hp (by omega) (by omega)) (by omega)
theorem Qj (n:Nat) (h:Nat->Int) (hn:0<n):Ga n h (DI n h) :=
 XE n h hn _ 0 1 0 (by omega) (by omega) (by omega) (by omega) (by omega) (λu hu=>absurd hu (Nat.not_lt_zero u)) (λp _ h1 h2=>by omega) (by omega)
def EY (n:Nat) (b:Int):Nat:=toN (sel (ilt (Aw b (ofNat n)) 0) (Aw b (ofNat n)+ofNat n) (Aw b (ofNat n)))
def BR (n:Nat) (f:Nat->E6) (b:Int) (i:Nat):E6:=f ((EY n b+i) % n)
theorem NM (b:Int) {n:Nat} (h:0<n):-(n:Int)<Aw b (ofNat n)∧Aw b (ofNat n)<(n:Int):=by
 unfold Aw;have h1:(0:Int)<ofNat n:=by simp only [Int.ofNat_eq_natCast]; omega
 exact ⟨Int.lt_tmod_of_pos b h1,Int.tmod_lt_of_pos b h1⟩
theorem ZX {b:Int} {n:Nat} (h:0<n) (hn:n <= 4611686018427387904) (hb:ilt (Aw b (ofNat n)) 0=true):wr .i64 (Aj (Aw b (ofNat n)) (ofNat n))=ofNat (EY n b)∧EY n b<n:=by
 obtain ⟨h1,h2⟩:=NM b h;have h3:Aw b (ofNat n)<0:=by simpa [ilt] using hb
 have h4:EY n b=(Aw b (ofNat n)+(n:Int)).toNat:=by unfold EY; rw [hb]; rfl
 rw [h4];generalize Aw b (ofNat n)=r at h1 h2 h3 ⊢;refine ⟨?_,by omega⟩;unfold wr Aj IntKind.wrap;simp [IntKind.bits,IntKind.signed];omega
theorem ZW {b:Int} {n:Nat} (h:0<n) (hb:ilt (Aw b (ofNat n)) 0=false):Aw b (ofNat n)=ofNat (EY n b)∧EY n b<n:=by
 obtain ⟨h1,h2⟩:=NM b h;have h3:¬ Aw b (ofNat n)<0:=by simpa [ilt] using hb
 have h4:EY n b=(Aw b (ofNat n)).toNat:=by unfold EY; rw [hb]; rfl
 rw [h4];generalize Aw b (ofNat n)=r at h1 h2 h3 ⊢;refine ⟨?_,by omega⟩;simp only [Int.ofNat_eq_natCast];omega
theorem ZY {n k:Nat} (h:k<n):EY n (ofNat k)=k:=by
 unfold EY;rw [Ke,Nat.mod_eq_of_lt h];have:ilt (ofNat k) 0=false:=by simp [ilt]
 rw [this];rfl
def Oy (n:Nat) (f:Nat->E6) (b:Int):Lp:=⟨bmK 39 0 [0,5,6,7,8],2,bmK 39 0 [5],2,n+1⟩
def Acm (n:Nat) (f:Nat->E6) (b:Int) (k:Int) (i:Nat) (x:Nat->V) (j:Nat->V):St:=⟨jsV 39 0 j [(0,.sl 6 n (λi=>eV (f i))),(5,.ref 1),(6,nV n),(7,iV k),(8,nV i)],[.row 46 6 0 Ac,.row 46 6 i x]⟩
def QK (n:Nat) (f:Nat->E6) (b:Int) (k:Int) (i:Nat) (x:Nat->V):Ex×St:=(.ex 0,⟨jsV 39 0 Ac [(5,.ref 1)],[.row 46 6 0 Ac,.row 46 6 i x]⟩)
noncomputable def IU (L:LT):St->T (Ex×St):=λst=>A8 tab ⟨A6 tb0,L,Gl⟩ (A0 Tryz.f39 0) 0 st
section
variable (L:LT) (n:Nat) (f:Nat->E6) (b:Int) (k:Int) (i:Nat) (x:Nat->V)  (j:Nat->V)
include L n f b k i x j
theorem AmJ (h0:ilt (ofNat i) (ofNat n)=false):Ap (IU L) (Oy n f b) (Acm n f b k i x j)=some ((.ex 0),⟨jsV 39 0 Ac [(5,.ref 1)],[.row 46 6 0 Ac,.row 46 6 i x]⟩):=by
 exact Ag (ks:=[kn h0]) (by kernel_rfl)
theorem AmI (h0:ilt (ofNat i) (ofNat n)=true) (h1:ieq (ofNat n) 0=false) (h2:Av (ile 0 (Aw (wr .i64 (Aj k (ofNat i))) (ofNat n))) (ilt (Aw (wr .i64 (Aj k (ofNat i))) (ofNat n)) (ofNat n))=true) (h3:Ci i 1 40=true):Ap (IU L) (Oy n f b) (Acm n f b k i x j)=some (.nm,⟨jsV 39 0 Ac [(0,.sl 6 n (λi=>eV (f i))),(5,.ref 1),(6,nV n),(7,iV k),(8,iV (wr .i64 (Aj (ofNat i) 1)))],[.row 46 6 0 Ac,.row 46 6 (Bh i 1) (AA i x (eV (f (toN (Aw (wr .i64 (Aj k (ofNat i))) (ofNat n))))))]⟩):=by
 exact Ag (ks:=[kn h0,kn h1,kn h2,kn h3]) (by kernel_rfl)
end
theorem Al4 (L:LT) (n:Nat) (f:Nat->E6) (b:Int) (h0:ieq (ofNat n) 0=true):(AK (Ar tab ⟨A6 tb0,L,Gl⟩ Tryz.f39 [Am n f,iV b] [])).sem=some ((.ref 0),[.row 46 6 0 Ac]):=by
 exact Ag (ks:=[kn h0]) (by kernel_rfl)
def QG (n:Nat) (f:Nat->E6) (b:Int) :St:=⟨jsV 39 0 (λ_=>A5) [(0,.sl 6 n (λi=>eV (f i))),(1,iV b),(4,.ref 0),(5,.ref 1),(6,nV n),(7,iV (wr .i64 (Aj (Aw b (ofNat n)) (ofNat n)))),(8,iV 0),(9,.sl 6 n (λi=>eV (f i))),(10,nV n),(11,nV n),(12,bV (ieq (ofNat n) 0)),(14,iV b),(15,nV n),(16,iV (Aw b (ofNat n))),(17,iV (Aw b (ofNat n))),(18,bV (ilt (Aw b (ofNat n)) 0)),(19,iV (Aw b (ofNat n))),(20,nV n),(21,iV (wr .i64 (Aj (Aw b (ofNat n)) (ofNat n))))],[.row 46 6 0 Ac,.row 46 6 0 Ac]⟩
def QF (n:Nat) (f:Nat->E6) (b:Int) :St:=⟨jsV 39 0 (λ_=>A5) [(0,.sl 6 n (λi=>eV (f i))),(1,iV b),(4,.ref 0),(5,.ref 1),(6,nV n),(7,iV (Aw b (ofNat n))),(8,iV 0),(9,.sl 6 n (λi=>eV (f i))),(10,nV n),(11,nV n),(12,bV (ieq (ofNat n) 0)),(14,iV b),(15,nV n),(16,iV (Aw b (ofNat n))),(17,iV (Aw b (ofNat n))),(18,bV (ilt (Aw b (ofNat n)) 0))],[.row 46 6 0 Ac,.row 46 6 0 Ac]⟩
section
variable (L:LT) (p0:PT) (n:Nat) (f:Nat->E6) (b:Int) (k:Int) (x:Nat->V)
include L p0 n f b k x
theorem Al6 (h0:ieq (ofNat n) 0=false) (h1:ilt (Aw b (ofNat n)) 0=true) (hp0:p0 (IU (onP 0 p0 (QK n f b k n x) L)) (QG n f b)=true):(AK (Ar tab ⟨A6 tb0,onP 0 p0 (QK n f b k n x) L,Gl⟩ Tryz.f39 [Am n f,iV b] [])).sem=some ((.ref 0),[.row 46 6 n x]):=by
 exact Ag (ks:=[kn h0,kn h0,kn h1,kn hp0]) (by kernel_rfl)
theorem Al5 (h0:ieq (ofNat n) 0=false) (h1:ilt (Aw b (ofNat n)) 0=false) (hp0:p0 (IU (onP 0 p0 (QK n f b k n x) L)) (QF n f b)=true):(AK (Ar tab ⟨A6 tb0,onP 0 p0 (QK n f b k n x) L,Gl⟩ Tryz.f39 [Am n f,iV b] [])).sem=some ((.ref 0),[.row 46 6 n x]):=by
 exact Ag (ks:=[kn h0,kn h0,kn h1,kn hp0]) (by kernel_rfl)
end
theorem Ac2 (L:LT) (n:Nat) (f:Nat->E6) (b:Int) (K:Nat) (hK:K<n) (h8:n * 40 <= 140737488355328):∀ (d i:Nat) (j:Nat->V) (q:Nat),n=i+d->d<q ->
  (Ax (IU L) (Oy n f b) q (Acm n f b (ofNat K) i (BN (λi=>eV (f ((K+i) % n))) i) j)).sem=some (QK n f b (ofNat K) n (BN (λi=>eV (f ((K+i) % n))) n))
 | 0,i,j,q+1,h,_=>by
  have:n=i:=by omega
  subst this;exact Ae (AmJ L n f b (ofNat K) n (BN (λi=>eV (f ((K+i) % n))) n) j (A4 (Nat.le_refl _)))
 | d+1,i,j,q+1,h,h2=>by
  have hl:i<n:=by omega
  have h9:(i+1) * 40 <= 140737488355328:=Nat.le_trans (Nat.mul_le_mul_right 40 hl) h8;have ha:Ci i 1 40=true:=decide_eq_true h9;have e1:Aw (wr .i64 (Aj (ofNat K) (ofNat i))) (ofNat n)=ofNat ((K+i) % n):=by rw [GI (by omega),Ke]
  have hb:Av (ile 0 (Aw (wr .i64 (Aj (ofNat K) (ofNat i))) (ofNat n))) (ilt (Aw (wr .i64 (Aj (ofNat K) (ofNat i))) (ofNat n)) (ofNat n))=true:=by
   rw [e1]; exact Af (Nat.mod_lt _ (by omega))
  rw [Ae (AmI L n f b (ofNat K) i (BN (λi=>eV (f ((K+i) % n))) i) j (ofNat_lt hl) (AhY hl) hb ha),AN,AY hl (by omega),e1,show toN (ofNat ((K+i) % n))=(K+i) % n from rfl];exact Ac2 L n f b K hK h8 d (i+1) Ac q (by omega) (by omega)
def Lq:List V->A2
 | [v,.val (.int .i64 b)]=>apL v λn f=>.br (BG n) (.leaf (.ref 0,[.row 46 6 n λi=>eV (BR n f b i)])) .fail
 | _=>.fail
theorem Abb (n:Nat) (f:Nat->E6) (b:Int) (g:Nat->V):QG n f b=Acm n f b (wr .i64 (Aj (Aw b (ofNat n)) (ofNat n))) 0 (BN g 0) (λi=>nth (QG n f b).t i):=by kernel_rfl
theorem Aba (n:Nat) (f:Nat->E6) (b:Int) (g:Nat->V):QF n f b=Acm n f b (Aw b (ofNat n)) 0 (BN g 0) (λi=>nth (QF n f b).t i):=by kernel_rfl
theorem p69:As Tryz.prog Gl 39 Lq:=by
 refine Ah Az mixed Tryz.func39 (by kernel_rfl) (by kernel_rfl) λvs v h' h=>?_;unfold Lq at h;split at h
 ·rename_i u b
  obtain ⟨n,f,ha,h1⟩:=AQ h;obtain ⟨hn,hq⟩:=Ab h1;have:=Aa hq;simp only [Prod.mk.injEq] at this;obtain ⟨rfl,rfl⟩:=this;have h8:n * 40 <= 140737488355328:=of_decide_eq_true hn;have hA:B0 [u,.val (.int .i64 b)] [Am n f,iV b]:=λS w cs hv=>by
   obtain ⟨c,l,rfl,q1,q2⟩:=hv;exact ⟨c,l,rfl,ha S w c q1,q2⟩
  have hx:=Bm Hy [(0,Oy n f b)];have hL:=AW [(0,Oy n f b)];cases n with
  | zero=>exact ⟨_,BP Gl tb0 [(0,Oy 0 f b)],_,hA,rfl,hx.1,hx.2,Al4 _ 0 f b rfl,Au.one λj hj=>absurd hj (Nat.not_lt_zero _)⟩
  | succ m =>
   have hm:m+1 <= 4611686018427387904:=by omega
   have h0:0<m+1:=Nat.succ_pos m;have hz:ieq (ofNat (m+1)) 0=false:=AhY h0;have fin:∀ K,K=EY (m+1) b->Au [Blk.row 46 6 (m+1) (BN (λi=>eV (f ((K+i) % (m+1)))) (m+1))] [Blk.row 46 6 (m+1) λi=>eV (BR (m+1) f b i)]:=λK hK=>Au.one λj hj=>by
    rw [HQ _ _ j hj,hK];rfl
   cases hb:ilt (Aw b (ofNat (m+1))) 0 with
   | true =>
    obtain ⟨e1,e2⟩:=ZX h0 hm hb;have hr:∀ L,(B9 [(0,Oy (m+1) f b)] 0 (IU L) (QG (m+1) f b)).sem=some (QK (m+1) f b (ofNat (EY (m+1) b)) (m+1) (BN (λi=>eV (f ((EY (m+1) b+i) % (m+1)))) (m+1))):=λL=>by
     show (Ax (IU L) (Oy (m+1) f b) (m+2) (QG (m+1) f b)).sem=_;rw [Abb (m+1) f b (λi=>eV (f ((EY (m+1) b+i) % (m+1)))),e1];exact Ac2 L (m+1) f b _ e2 h8 (m+1) 0 _ (m+2) (by omega) (by omega)
    exact ⟨_,BP Gl tb0 [(0,Oy (m+1) f b)],_,hA,rfl,hx.1,hx.2,Bp (Bn hL hL) _ (Al6 _ _ (m+1) f b _ _ hz hb (AP (hr _))),fin _ rfl⟩
   | false =>
    obtain ⟨e1,e2⟩:=ZW h0 hb;have hr:∀ L,(B9 [(0,Oy (m+1) f b)] 0 (IU L) (QF (m+1) f b)).sem=some (QK (m+1) f b (ofNat (EY (m+1) b)) (m+1) (BN (λi=>eV (f ((EY (m+1) b+i) % (m+1)))) (m+1))):=λL=>by
     show (Ax (IU L) (Oy (m+1) f b) (m+2) (QF (m+1) f b)).sem=_;rw [Aba (m+1) f b (λi=>eV (f ((EY (m+1) b+i) % (m+1)))),e1];exact Ac2 L (m+1) f b _ e2 h8 (m+1) 0 _ (m+2) (by omega) (by omega)
    exact ⟨_,BP Gl tb0 [(0,Oy (m+1) f b)],_,hA,rfl,hx.1,hx.2,Bp (Bn hL hL) _ (Al5 _ _ (m+1) f b _ _ hz hb (AP (hr _))),fin _ rfl⟩
 ·cases h
end Go.Proofs.YtkbgidbledjejaaGreat.Ed
namespace Go.Proofs.YtkbgidbledjejaaGreat.Ed
open Go.Sy
theorem Yd {a:Int} {n:Nat} {f g:Nat->E6} (h:∀ i,i<n->g i=f i):Je a n g=Je a n f:=by
 have h1:A1 (DR a g) n 0=A1 (DR a f) n 0:=CP n 0 λk _ h2=>by unfold DR; rw [h k (by omega)]
 have h2:A1 (Hk n g) n 0=A1 (Hk n f) n 0:=CP n 0 λk _ h2=>by unfold Hk; rw [h k (by omega),h ((k+1) % n) (Nat.mod_lt _ (by omega))]
 unfold Je;rw [h1,h2];cases hc:A1 (DR a f) n 0 with
 | some t =>have:=Eh hc;simp only [h t (by omega)]
 | none=>rfl
theorem Abf {n:Nat} {l:Nat->Int} {c d:Nat->Bool} {q:Int} (h:∀ i,i<n->d i=c i):crR n l d q=crR n l c q:=by
 unfold crR;rw [CP (q:=Bo n l d q) (p:=Bo n l c q) n 0 λk _ hk=>by
  unfold Bo Yk;rw [h k (by omega),Eo (q:=Em l d (l k)) (p:=Em l c (l k)) n λi hi=>by unfold Em; rw [h i hi]]]
theorem Yp {a:Int} {n:Nat} {f g:Nat->E6} (h:∀ i,i<n->g i=f i):My a n g=My a n f:=by
 have ho:∀ i,i<n->(λk=>BX (g k)) i=(λk=>BX (f k)) i:=λi hi=>congrArg BX (h i hi);have hm:∀ i,i<n->(λk=>BM (g k)) i=(λk=>BM (f k)) i:=λi hi=>congrArg BM (h i hi);have hw:∀ i,i<n->(λk=>isW (g k)) i=(λk=>isW (f k)) i:=λi hi=>congrArg isW (h i hi);have e1:Jg n g=Jg n f:=by unfold Jg; rw [Eo n ho]
 have e2:Kv n g=Kv n f:=by unfold Kv; rw [Eo n hm]
 have e3:Wy n g=Wy n f:=by
  unfold Wy;rw [NZ hm,NZ ho,Abf hw]
 unfold My Yo;rw [Yd h,e1,e2,e3]
theorem QS {a:Int} {n:Nat} {f g:Nat->E6} (h:∀ i,i<n->g i=f i):Ft a n g=Ft a n f:=by
 unfold Ft;rw [Yp h]
def Aoe (a:Int) (n:Nat) (f:Nat->E6):Int:=(Ft a n f).1
end Go.Proofs.YtkbgidbledjejaaGreat.Ed
namespace Go.Proofs.YtkbgidbledjejaaGreat.Ed
open Go.Sy
open Int (ofNat)
theorem Ei {q:Nat->Bool}:∀ {d i:Nat},A1 q d i=none↔∀ k,i <= k->k<i+d->q k=false
 | 0,i=>⟨λ_ k h1 h2=>by omega,λ_=>rfl⟩
 | d+1,i=>by
  cases hq:q i with
  | true =>rw [Fl hq];refine ⟨λh=>(by cases h),λh=>?_⟩;have:=h i (Nat.le_refl i) (by omega);rw [hq] at this;cases this
  | false =>
   rw [Gc hq,Ei];refine ⟨λh k h1 h2=>?_,λh k h1 h2=>h k (by omega) (by omega)⟩;by_cases e:k=i
   ·rw [e]; exact hq
   ·exact h k (by omega) (by omega)
structure IsCycle (a:Int) (n:Nat) (f:Nat->E6):Prop where
 arch:ieq a 1=true ∨ ieq a 2=true
 lo:2 <= n
 hi:n <= 16
 legal:∀ i,i<n->DR a f i=false
 meets:∀ i,i<n->Hk n f i=false
 outer:2 <= AD (λk=>BX (f k)) n
 moves:2 <= AD (λk=>BM (f k)) n
 writes:∀ i,i<n->Bo n (Bu (λk=>BM (f k)) n) (λi=>isW (f i)) 2 i=false
 crowd:∀ i,i<n->Bo n (Bu (λk=>BX (f k)) n) (λ_=>true) 12 i=false
theorem SU {n:Nat} {l:Nat->Int} {c:Nat->Bool} {q:Int} (h:(crR n l c q).2=false):∀ i,i<n->Bo n l c q i=false:=by
 unfold crR at h;cases hc:A1 (Bo n l c q) n 0 with
 | some t=>rw [hc] at h; cases h
 | none=>exact λi hi=>Ei.1 hc i (Nat.zero_le i) (by omega)
theorem Qt {a:Int} {n:Nat} {f:Nat->E6} (h:ieq (Aoe a n f) 0=true):IsCycle a n f:=by
 have h:=Cz h;unfold Aoe at h;have ha:ieq a 1=true ∨ ieq a 2=true:=by
  cases ca:ieq a 1 with
  | true=>exact .inl rfl
  | false =>
   cases cb:ieq a 2 with
   | true=>exact .inr rfl
   | false =>unfold Ft at h;rw [ca,cb] at h;cases h
 rw [Ahf ha] at h;unfold My at h;cases c1:ilt (ofNat n) 2 with
 | true=>rw [c1] at h; cases h
 | false =>
  cases c2:ilt 16 (ofNat n) with
  | true=>rw [c1,c2] at h; cases h
  | false =>
   rw [c1,c2] at h;have h:(match Je a n f,ieq (Je a n f).1 0 with | r,false=>r | _,true=>Yo n f).1=0:=h
   cases c3:ieq (Je a n f).1 0 with
   | false =>rw [c3] at h;have h:(Je a n f).1=0:=h;rw [h] at c3;cases c3
   | true =>
    rw [c3] at h;have h:(Yo n f).1=0:=h;have c3:=Cz c3;unfold Yo at h;cases c4:ilt (Jg n f) 2 with
    | true=>rw [c4] at h; cases h
    | false =>
     cases c5:ilt (Kv n f) 2 with
     | true=>rw [c4,c5] at h; cases h
     | false =>
      rw [c4,c5] at h;have h:(Wy n f).1=0:=h;unfold Wy at h;cases c6:(crR n (Bu (λk=>BM (f k)) n) (λi=>isW (f i)) 2).2 with
      | true =>rw [show crR n (Bu (λk=>BM (f k)) n) (λi=>isW (f i)) 2=((crR n (Bu (λk=>BM (f k)) n) (λi=>isW (f i)) 2).1,true) from Prod.ext rfl c6] at h;cases h
      | false =>
       rw [show crR n (Bu (λk=>BM (f k)) n) (λi=>isW (f i)) 2=((crR n (Bu (λk=>BM (f k)) n) (λi=>isW (f i)) 2).1,false) from Prod.ext rfl c6] at h;cases c7:(crR n (Bu (λk=>BX (f k)) n) (λ_=>true) 12).2 with
       | true =>rw [show crR n (Bu (λk=>BX (f k)) n) (λ_=>true) 12=((crR n (Bu (λk=>BX (f k)) n) (λ_=>true) 12).1,true) from Prod.ext rfl c7] at h;cases h
       | false =>
        have e1:A1 (DR a f) n 0=none∧A1 (Hk n f) n 0=none:=by
         unfold Je at c3;cases d1:A1 (DR a f) n 0 with
         | some t =>
          rw [d1] at c3;cases d2:ieq (Hj a (f t)) 0 with
          | true=>simp only [d2] at c3; cases c3
          | false=>simp only [d2] at c3; cases c3
         | none =>
          rw [d1] at c3;cases d2:A1 (Hk n f) n 0 with
          | some t=>rw [d2] at c3; cases c3
          | none=>exact ⟨rfl,rfl⟩
        rw [show (2:Int)=ofNat 2 from rfl,EL] at c1;rw [show (16:Int)=ofNat 16 from rfl,EL] at c2;unfold Jg at c4;rw [show (2:Int)=ofNat 2 from rfl,EL] at c4;unfold Kv at c5;rw [show (2:Int)=ofNat 2 from rfl,EL] at c5;have c1:=of_decide_eq_false c1;have c2:=of_decide_eq_false c2;have c4:=of_decide_eq_false c4;have c5:=of_decide_eq_false c5;exact ⟨ha,by omega,by omega,λi hi=>Ei.1 e1.1 i (Nat.zero_le i) (by omega),λi hi=>Ei.1 e1.2 i (Nat.zero_le i) (by omega),by omega,by omega,SU c6,SU c7⟩
theorem IsCycle.may {a:Int} {n:Nat} {f:Nat->E6} (h:IsCycle a n f):By n f=true:=Bw.2 λi hi=>by
 have h1:=h.legal i hi;unfold DR at h1;cases c:ieq (Hj a (f i)) 0 with
 | false=>rw [c] at h1; cases h1
 | true =>
  have c:=Cz c;rcases h.arch with ha | ha
  ·rw [Cz ha] at c; exact c
  ·rw [Cz ha] at c; exact c
end Go.Proofs.YtkbgidbledjejaaGreat.Ed
