/-
  Layer 3: lists of edges: the same, a copy. No conditions.
-/
import Derived.Test.YtkbafjceglhjhaaGreatDoorEdE
import Derived.Test.YtkbafjceglhjhaaGreatDoorSyS
namespace Go.Proofs.YtkbafjceglhjhaaGreatDoor.Ed
open Go.Sy
open Int (ofNat)
def okE (v:V):Bool:=match toE v with
 | some _=>true
 | none=>false
def edE (v:V):E6:=match toE v with
 | some e=>e
 | none=>FS
def Bi (n:Nat) (p:Nat->Bool):Bool:=(List.range n).all p
theorem AE {n:Nat} {p:Nat->Bool}:Bi n p=true↔∀ i,i<n->p i=true:=by simp [Bi]
theorem NW {v:V} (h:okE v=true):v=eV (edE v):=by
 unfold okE at h;unfold edE;split at h
 ·rename_i e he
  exact Nw he
 ·cases h
def gSl:V->Option (Nat×(Nat->V))
 | .sl s n g=>match Nat.beq s 6 with
  | true=>some (n,g)
  | false=>match n with
   | 0=>some (0,g)
   | _=>none
 | .slr s n _ g=>match Nat.beq s 6 with
  | true=>some (n,g)
  | false=>none
 | _=>none
def apL {α:Type} (v:V) (F:Nat->(Nat->E6)->T α):T α :=
 match gSl v with
 | some (n,g)=>.br (Bi n λi=>okE (g i)) (F n λi=>edE (g i)) .fail
 | none=>.fail
def AL (n:Nat) (f:Nat->E6):V:=.sl 6 n λi=>eV (f i)
theorem Cz {α:Type} {v:V} {F:Nat->(Nat->E6)->T α} {r:α} (h:(apL v F).sem=some r) :
  ∃ n f,(∀ (S:Nat->Prop) (w:World) (c:Value),VR S w v noK c->VR S w (AL n f) noK c)∧(F n f).sem=some r:=by
 unfold apL at h;split at h
 ·rename_i n g hg
  obtain ⟨h1,h2⟩:=Ac h;have h1:=AE.1 h1;refine ⟨n,_,λS w c hv=>?_,h2⟩;unfold gSl at hg;split at hg
  ·rename_i s n' g'
   split at hg
   ·rename_i hs
    simp only [Option.some.injEq,Prod.mk.injEq] at hg;obtain ⟨rfl,rfl⟩:=hg;have hs:s=6:=Nat.eq_of_beq_eq_true hs;subst hs;obtain ⟨a,cap,e,hc,hb⟩:=hv;refine ⟨a,cap,e,hc,hb.imp id ?_⟩
    rintro ⟨b,o,ea,hel⟩
    refine ⟨b,o,ea,λi hi=>?_⟩;have:=hel i hi;rw [NW (h1 i hi)] at this;exact this
   ·split at hg
    ·simp only [Option.some.injEq,Prod.mk.injEq] at hg
     obtain ⟨rfl,rfl⟩:=hg;obtain ⟨a,cap,e,hc,_⟩:=hv;exact ⟨a,cap,e,hc,.inl rfl⟩
    ·cases hg
  ·rename_i s n' m' g'
   split at hg
   ·rename_i hs
    simp only [Option.some.injEq,Prod.mk.injEq] at hg;obtain ⟨rfl,rfl⟩:=hg;have hs:s=6:=Nat.eq_of_beq_eq_true hs;subst hs;obtain ⟨a,cap,e,hc,hm,hb⟩:=hv;refine ⟨a,cap,e,Nat.le_trans hc hm,?_⟩;rcases hb with h0 | ⟨b,o,ea,hel⟩
    ·exact .inl (by omega)
    ·refine .inr ⟨b,o,ea,λi hi=>?_⟩
     have:=hel i (by omega);rw [NW (h1 i hi)] at this;exact this
   ·cases hg
  ·cases hg
 ·cases h
def H5 (F:Nat->(Nat->E6)->A3):List V->A3
 | [v]=>apL v F
 | _=>.fail
def Ak0 (F:Nat->(Nat->E6)->Nat->(Nat->E6)->A3):List V->A3
 | [v,u]=>apL v λn f=>apL u λm g=>F n f m g
 | _=>.fail
theorem Do {F:Nat->(Nat->E6)->A3} {vs:List V} {r:V×List Blk} (h:(H5 F vs).sem=some r):∃ n f,Bz vs [AL n f]∧(F n f).sem=some r:=by
 unfold H5 at h;split at h
 ·obtain ⟨n,f,h1,h2⟩:=Cz h
  refine ⟨n,f,λS w cs hv=>?_,h2⟩;obtain ⟨c,l,rfl,q1,q2⟩:=hv;exact ⟨c,l,rfl,h1 S w c q1,q2⟩
 ·cases h
theorem QK {F:Nat->(Nat->E6)->Nat->(Nat->E6)->A3} {vs:List V} {r:V×List Blk} (h:(Ak0 F vs).sem=some r) :
  ∃ n f m g,Bz vs [AL n f,AL m g]∧(F n f m g).sem=some r:=by
 unfold Ak0 at h;split at h
 ·obtain ⟨n,f,h1,h2⟩:=Cz h
  obtain ⟨m,g,h3,h4⟩:=Cz h2;refine ⟨n,f,m,g,λS w cs hv=>?_,h4⟩;obtain ⟨c,l,rfl,q1,c',l',rfl,q2,q3⟩:=hv;exact ⟨c,_,rfl,h1 S w c q1,c',l',rfl,h3 S w c' q2,q3⟩
 ·cases h
theorem A1 {i n:Nat} (h:i<n) (hn:n <= 4611686018427387904):wr .i64 (Ah (ofNat i) 1)=ofNat (i+1):=by
 unfold wr Ah IntKind.wrap;simp [IntKind.bits,IntKind.signed];omega
theorem ofNat_lt {i n:Nat} (h:i<n):ilt (ofNat i) (ofNat n)=true:=by simp [ilt]; omega
theorem Az {i n:Nat} (h:n <= i):ilt (ofNat i) (ofNat n)=false:=by simp [ilt]; omega
theorem Ae {i n:Nat} (h:i<n):Aj (ile 0 (ofNat i)) (ilt (ofNat i) (ofNat n))=true:=by rw [ofNat_lt h]; simp [Aj,ile]
noncomputable def cx9 (l:List (Nat×Lp)):Cx:=AP Gl tb8 l
def LH (n:Nat):Lp:=⟨bmK 26 0 [0,1,4,5],0,bmK 26 0 [0,1,4],0,n+1⟩
def P1 (n m:Nat) (i:Int) (f g:Nat->E6) (j:Nat->V):St:=⟨jsV 26 0 j [(0,.sl 6 n λi=>eV (f i)),(1,.sl 6 m λi=>eV (g i)),(4,bV false),(5,iV i)],[]⟩
def Uu (n m:Nat) (f g:Nat->E6):St:=⟨jsV 26 0 Ab [(0,.sl 6 n λi=>eV (f i)),(1,.sl 6 m λi=>eV (g i)),(4,bV false)],[]⟩
noncomputable def Ie (L:LT):St->T (Ex×St):=λst=>A8 tab ⟨Ax tb8,L,Gl⟩ (As Tryz.f43 0) 0 st
section
variable (L:LT) (n m i:Nat) (f g:Nat->E6) (j:Nat->V)
include L n m i f g j
theorem Aak:((Ie L (P1 n m (ofNat i) f g j)).bind λr=>T.leaf (r.1,Hv [true,true,false,false,true,false,false,false,false,false,false,false,false,false,false,false,false,false,false,false,false,false,false,false,false,false] 0 r.2)).path [false]=some ([ilt (ofNat i) (ofNat n)],(.ex 0,Uu n m f g)):=by kernel_rfl
theorem Aaj:((Ie L (P1 n m (ofNat i) f g j)).bind λr=>T.leaf (r.1,Hv [true,true,false,false,true,false,false,false,false,false,false,false,false,false,false,false,false,false,false,false,false,false,false,false,false,false] 0 r.2)).path [true,true,true,true] =
  some ([ilt (ofNat i) (ofNat n),Aj (ile 0 (ofNat i)) (ilt (ofNat i) (ofNat n)),Aj (ile 0 (ofNat i)) (ilt (ofNat i) (ofNat m)),AQ (eqE (f i) (g i))],(.rt,Uu n m f g)):=by kernel_rfl
theorem Yz:((Ie L (P1 n m (ofNat i) f g j)).bind λr=>T.leaf (r.1,Hv [true,true,false,false,true,true,false,false,false,false,false,false,false,false,false,false,false,false,false,false,false,false,false,false,false,false] 0 r.2)).path [true,true,true,false] =
  some ([ilt (ofNat i) (ofNat n),Aj (ile 0 (ofNat i)) (ilt (ofNat i) (ofNat n)),Aj (ile 0 (ofNat i)) (ilt (ofNat i) (ofNat m)),AQ (eqE (f i) (g i))],
   (.nm,P1 n m (wr .i64 (Ah (ofNat i) 1)) f g λ_=>.und)):=by kernel_rfl
end
def Gj (f g:Nat->E6):Nat->Nat->Bool
 | 0,_=>true
 | d+1,i=>match eqE (f i) (g i) with
  | true=>Gj f g d (i+1)
  | false=>false
theorem Tg (L:LT) (n m:Nat) (f g:Nat->E6) (hm:n=m) (hn:n <= 4611686018427387904):∀ (d i:Nat) (j:Nat->V) (q:Nat),n=i+d->d<q ->
  (Au (Ie L) (LH n) q (P1 n m (ofNat i) f g j)).sem=some (match Gj f g d i with | true=>.ex 0 | false=>.rt,Uu n m f g)
 | 0,i,j,q+1,h1,_=>by
  have h3:(Au (Ie L) (LH n) (q+1) (P1 n m (ofNat i) f g j)).sem=some (.ex 0,Uu n m f g):=TR (Aak L n m i f g j) (by rw [Az (by omega)]) (λh=>by cases h);exact h3
 | d+1,i,j,q+1,h1,h2=>by
  have hi:i<n:=by omega
  have hi':i<m:=by omega
  unfold Gj;cases hc:eqE (f i) (g i) with
  | true =>
   have h3:(Au (Ie L) (LH n) (q+1) (P1 n m (ofNat i) f g j)).sem=(Au (Ie L) (LH n) q (P1 n m (wr .i64 (Ah (ofNat i) 1)) f g λ_=>.und)).sem :=
    YV (Yz L n m i f g j) (by rw [Ae hi,Ae hi',ofNat_lt hi,hc]; rfl)
   rw [h3,A1 hi hn];exact Tg L n m f g hm hn d (i+1) Ab q (by omega) (by omega)
  | false =>have h3:(Au (Ie L) (LH n) (q+1) (P1 n m (ofNat i) f g j)).sem=some (.rt,Uu n m f g):=TR (Aaj L n m i f g j) (by rw [Ae hi,Ae hi',ofNat_lt hi,hc]; rfl) (λh=>by cases h);exact h3
def DC (n:Nat) (f:Nat->E6) (m:Nat) (g:Nat->E6):Bool:=sel (ieq (ofNat n) (ofNat m)) (Gj f g n 0) false
def An4 (n m:Nat) (f g:Nat->E6):Nat->V:=lkV AI [(6,AL n f),(7,nV n),(8,AL m g),(9,nV m),(10,bV (AQ (ieq (ofNat n) (ofNat m))))]
theorem Aal (n m:Nat) (f g:Nat->E6) (L:LT):A0 (Ai tab ⟨Ax tb8,L,Gl⟩ Tryz.f43 [AL n f,AL m g] []) =
  A0 (Ai tab ⟨Ax tb8,λ_ _ _=>L 0 (Ie L) (P1 n m 0 f g (An4 n m f g)),Gl⟩ Tryz.f43 [AL n f,AL m g] []):=by kernel_rfl
theorem Ael (n m:Nat) (f g:Nat->E6) (L:LT):(A0 (Ai tab ⟨Ax tb8,L,Gl⟩ Tryz.f43 [AL n f,AL m g] [])).path [true] =
  some ([AQ (ieq (ofNat n) (ofNat m))],(bV false,[])):=by kernel_rfl
theorem Aem (n m:Nat) (f g:Nat->E6):(A0 (Ai tab ⟨Ax tb8,λ_ _ _=>.leaf (.ex 0,Uu n m f g),Gl⟩ Tryz.f43 [AL n f,AL m g] [])).path [false] =
  some ([AQ (ieq (ofNat n) (ofNat m))],(bV true,[])):=by kernel_rfl
theorem Aek (n m:Nat) (f g:Nat->E6):(A0 (Ai tab ⟨Ax tb8,λ_ _ _=>.leaf (.rt,Uu n m f g),Gl⟩ Tryz.f43 [AL n f,AL m g] [])).path [false] =
  some ([AQ (ieq (ofNat n) (ofNat m))],(bV false,[])):=by kernel_rfl
theorem Aan (n m:Nat) (f g:Nat->E6) (hn:n <= 4611686018427387904):(A0 (Ai tab (cx9 [(0,LH n)]) Tryz.f43 [AL n f,AL m g] [])).sem=some (bV (DC n f m g),[]):=by
 unfold DC;cases hc:ieq (ofNat n) (ofNat m) with
 | false=>exact AA (Ael n m f g _) (by rw [hc]; rfl)
 | true =>
  have h0:ofNat n=ofNat m:=by simpa only [ieq,beq_iff_eq] using hc
  have hm:n=m:=Int.ofNat.inj h0;have h1:=Tg (BO [(0,LH n)]) n m f g hm hn n 0 (An4 n m f g) (n+1) (by omega) (by omega);have h2:=Aal n m f g (BO [(0,LH n)]);have h3:(A0 (Ai tab (cx9 [(0,LH n)]) Tryz.f43 [AL n f,AL m g] [])).sem=(A0 (Ai tab ⟨Ax tb8,λ_ _ _=>.leaf (match Gj f g n 0 with | true=>.ex 0 | false=>.rt,Uu n m f g),Gl⟩ Tryz.f43 [AL n f,AL m g] [])).sem:=by
   refine (congrArg T.sem h2).trans (QT λid _ _ _ _=>?_);exact h1
  rw [h3];cases Gj f g n 0 with
  | true=>exact AA (Aem n m f g) (by rw [hc]; rfl)
  | false=>exact AA (Aek n m f g) (by rw [hc]; rfl)
def Av (n:Nat):Bool:=decide (n <= 4611686018427387904)
def NC:List V->A3:=Ak0 λn f m g=>.br (Av n) (out (bV (DC n f m g))) .fail
theorem p36:An Tryz.prog Gl 43 NC:=by
 refine Al A2 mixed Tryz.func43 (by kernel_rfl) (by kernel_rfl) λvs v h' h=>?_;obtain ⟨n,f,m,g,ha,h⟩:=QK h;obtain ⟨hn,h⟩:=Ac h;have:=Aa h;simp only [Prod.mk.injEq] at this;obtain ⟨rfl,rfl⟩:=this;have hx:=Bq Lx [(0,LH n)];exact ⟨_,cx9 [(0,LH n)],_,ha,rfl,hx.1,hx.2,Aan n m f g (of_decide_eq_true hn),Ap.refl _⟩
end Go.Proofs.YtkbafjceglhjhaaGreatDoor.Ed
namespace Go.Proofs.YtkbafjceglhjhaaGreatDoor.Ed
open Go.Sy
def CU (n:Nat):Bool:=decide (n * 40 <= 140737488355328)
def lp37 (n:Nat):Lp:=⟨bmK 19 0 [0,2,3,4],2,bmK 19 0 [0,2,3],2,n+1⟩
end Go.Proofs.YtkbafjceglhjhaaGreatDoor.Ed
namespace Go.Proofs.YtkbafjceglhjhaaGreatDoor.Ed
open Go.Sy
theorem allT_some {vs:List V} {r:V×List Blk} (h:(allT vs).sem=some r):∃ a,vs=[iV a]∧((a=1∧r=(.tup [.ref 0,iV 0],[.row 76 6 22 λi=>eV (Agc 1 i)])) ∨ (a=2∧r=(.tup [.ref 0,iV 0],[.row 76 6 104 λi=>eV (Agc 2 i)])) ∨
  (AQ (B7 a)=true∧r=(.tup [.ref 0,iV 1],[.row 76 6 0 λ_=>.und]))):=by
 obtain ⟨a,rfl,h⟩:=Pk M9 h;refine ⟨a,rfl,?_⟩;have h:sel (ieq a 1) (some _) (sel (ieq a 2) (some _) (some _))=some r:=h;cases h1:ieq a 1 with
 | true =>rw [h1] at h;have h:some _=some r:=h;exact .inl ⟨by simpa [ieq] using h1,(Option.some.inj h).symm⟩
 | false =>
  rw [h1] at h;cases h2:ieq a 2 with
  | true =>rw [h2] at h;have h:some _=some r:=h;exact .inr (.inl ⟨by simpa [ieq] using h2,(Option.some.inj h).symm⟩)
  | false =>rw [h2] at h;have h:some _=some r:=h;exact .inr (.inr ⟨by simp [B7,h1,h2,AQ,bor],(Option.some.inj h).symm⟩)
noncomputable def tb10:A9:=(43,NC)::(192,ap2 gI toE λa e=>out (Ov a e))::(151,ap2 gI toE λa e=>out (Ov a e))::tb8
theorem tb10_ok:Ao Tryz.prog Gl tb10:=.cons p36 <| .cons p32 <| .cons p33 Lx
end Go.Proofs.YtkbafjceglhjhaaGreatDoor.Ed
namespace Go.Proofs.YtkbafjceglhjhaaGreatDoor.Ed
open Go.Sy
end Go.Proofs.YtkbafjceglhjhaaGreatDoor.Ed
namespace Go.Sy
def Aod (l:Lp) (r:Ex×St):Ex×St :=
 match r.1 with
 | .nm=>(.nm,Hv l.ks l.n r.2)
 | .ex i=>(.ex i,Hv l.ke l.ne r.2)
 | .rt=>(.rt,Hv l.ke l.ne r.2)
def Ay (f:St->T (Ex×St)) (l:Lp) (st:St):Option (Ex×St):=((f st).bind λr=>T.leaf (Aod l r)).sem
def YZ (f:St->T (Ex×St)) (l:Lp) (m:Nat):Option (Ex×St)->Option (Ex×St)
 | some (.nm,st)=>(Au f l m st).sem
 | some (e,st)=>some (e,st)
 | none=>none
theorem Ag {f:St->T (Ex×St)} {l:Lp} {m:Nat} {st:St} {t:Option (Ex×St)} (h:Ay f l st=t):(Au f l (m+1) st).sem=YZ f l m t:=by
 subst h;show ((f st).bind _).sem=_;unfold Ay;rw [CQ,CQ];cases (f st).sem with
 | none=>rfl
 | some r =>obtain ⟨e,s⟩:=r;cases e <;> rfl
theorem AV {f:St->T (Ex×St)} {l:Lp} {m:Nat} {st:St}:YZ f l m (some (.nm,st))=(Au f l m st).sem:=rfl
theorem RR {f:St->T (Ex×St)} {l:Lp} {m:Nat} {st:St}:YZ f l m (some (.rt,st))=some (.rt,st):=rfl
theorem Aae {α:Type} (x y:α):sel true x y=x:=rfl
theorem Yx {α:Type} (x y:α):sel false x y=y:=rfl
def TLe {α:Type} (t t':T α):Prop:=∀ r,t.sem=some r->t'.sem=some r
theorem TLe.refl {α:Type} (t:T α):TLe t t:=λ_ h=>h
theorem TLe.bind {α β:Type} {t t':T α} {f f':α->T β} (h:TLe t t') (hf:∀ a,TLe (f a) (f' a)):TLe (t.bind f) (t'.bind f'):=λr hr=>by
 obtain ⟨a,h1,h2⟩:=Af hr;rw [CQ,h a h1];exact hf a r h2
def LLe (M L:Nat->(St->T (Ex×St))->St->T (Ex×St)):Prop:=∀ id f f' st,(∀ st,TLe (f st) (f' st))->TLe (M id f st) (L id f' st)
theorem TS {f f':St->T (Ex×St)} (h:∀ st,TLe (f st) (f' st)) (l:Lp):∀ (m:Nat) (st:St),TLe (Au f l m st) (Au f' l m st)
 | 0,_=>TLe.refl _
 | m+1,st=>by
  refine TLe.bind (h st) λr=>?_;cases r.1 with
  | nm=>exact TS h l m _
  | ex i=>exact TLe.refl _
  | rt=>exact TLe.refl _
theorem Bh (ls:List (Nat×Lp)):LLe (BO ls) (BO ls):=λid f f' st h=>by
 unfold BO;split
 ·exact TS h _ _ _
 ·exact TLe.refl _
def onP (k:Nat) (p:(St->T (Ex×St))->St->Bool) (r:Ex×St) (L:Nat->(St->T (Ex×St))->St->T (Ex×St)):Nat->(St->T (Ex×St))->St->T (Ex×St) :=
 λid f st=>match Nat.beq id k with
  | true=>.br (p f st) (.leaf r) .fail
  | false=>L id f st
noncomputable def isP (L:Nat->(St->T (Ex×St))->St->T (Ex×St)) (k:Nat) (r:Ex×St):(St->T (Ex×St))->St->Bool :=
 λf st=>@decide ((L k f st).sem=some r) (Classical.propDecidable _)
theorem A5 {L:Nat->(St->T (Ex×St))->St->T (Ex×St)} {k:Nat} {r:Ex×St} {f:St->T (Ex×St)} {st:St} (h:(L k f st).sem=some r):isP L k r f st=true:=by
 unfold isP;exact @decide_eq_true _ (Classical.propDecidable _) h
theorem Be {M L:Nat->(St->T (Ex×St))->St->T (Ex×St)} {k:Nat} {r:Ex×St} (hM:LLe M L) (hL:LLe L L):LLe (onP k (isP L k r) r M) L:=λid f f' st hf r' hr=>by
 unfold onP at hr;cases hk:Nat.beq id k with
 | true =>rw [hk] at hr;obtain ⟨h1,h2⟩:=Ac hr;rw [Aa h2];unfold isP at h1;have h1:=@of_decide_eq_true _ (Classical.propDecidable _) h1;rw [Nat.eq_of_beq_eq_true hk];exact hL k f f' st hf _ h1
 | false =>rw [hk] at hr;exact hM id f f' st hf _ hr
theorem KN {τ:List Ty} {Γ:Cx} {L L':Nat->(St->T (Ex×St))->St->T (Ex×St)} (h:LLe L L') :
  ∀ (c:Code) (id:Nat) (st:St),TLe (A8 τ { Γ with loop:=L } c id st) (A8 τ { Γ with loop:=L' } c id st):=by
 intro c
 induction c with
 | skip=>intro id st; exact TLe.refl _
 | region i ops draw=>intro id st; exact TLe.refl _
 | seq a b iha ihb =>
  intro id st;refine TLe.bind (iha id st) λr=>?_;cases r.1 with
  | nm=>exact ihb id r.2
  | ex j=>exact TLe.refl _
  | rt=>exact TLe.refl _
 | cond x a b iha ihb =>
  intro id st;show TLe (match ev ⟨Γ.call,Γ.glob⟩ st x with | .val (.bool q)=>T.br q (A8 τ { Γ with loop:=L } a id st) (A8 τ { Γ with loop:=L } b id st) | _=>.fail) (match ev ⟨Γ.call,Γ.glob⟩ st x with | .val (.bool q)=>T.br q (A8 τ { Γ with loop:=L' } a id st) (A8 τ { Γ with loop:=L' } b id st) | _=>.fail)
  split
  ·rename_i q _
   cases q with
   | true=>exact iha id st
   | false=>exact ihb id st
  ·exact TLe.refl _
 | block i c ih =>
  intro id st;refine TLe.bind (ih i st) λr=>?_;cases r.1 with
  | nm=>exact TLe.refl _
  | ex j=>exact TLe.refl _
  | rt=>exact TLe.refl _
 | loop c ih =>intro id st;exact h id _ _ st (ih id)
 | exit i=>intro id st; exact TLe.refl _
 | ret=>intro id st; exact TLe.refl _
 | _=>intro id st; exact TLe.refl _
theorem Bn {τ:List Ty} {call:FuncId->List V->St->T (V×Res)} {G:Nat->V} {fn:Func} {vs:List V} {L L':Nat->(St->T (Ex×St))->St->T (Ex×St)}
  (h:LLe L L'):TLe (A0 (Ai τ ⟨call,L,G⟩ fn vs [])) (A0 (Ai τ ⟨call,L',G⟩ fn vs [])):=by
 refine TLe.bind ?_ λ_=>TLe.refl _;unfold Ai;cases fn.body with
 | none=>exact TLe.refl _
 | some c=>exact TLe.bind (KN (Γ:=⟨call,L,G⟩) h c 0 _) λ_=>TLe.refl _
theorem PY {f f':St->T (Ex×St)} {l:Lp} {st:St} {r:Ex×St} (h:TLe (f st) (f' st)) (hr:Ay f l st=some r):Ay f' l st=some r:=TLe.bind h (λ_=>TLe.refl _) r hr
def AnQ (v:V):Blk->Blk
 | .row e s 0 _=>.row e s 0 λ_=>v
 | .jag j=>.jag { j with mem:=λi k=>ZC (Ae4 k (j.len i)) (j.mem i k) v }
 | b=>b
def Aht (h:List Blk) (id:Nat) (v:V):List Blk :=
 match h[id]? with
 | some b=>h.set id (AnQ v b)
 | none=>h
def KI (st:St):List (Nat×V)->St
 | []=>st
 | (id,v)::l=>KI ⟨st.t,Aht st.h id v⟩ l
theorem Yh {Γ:Cx0}:∀ (l:List (Nat×V)) (st:St),LE Γ st (KI st l)
 | [],st=>LE.refl st
 | (id,v)::l,st=>by
   refine LE.trans ?_ (Yh l _);unfold Aht;cases hb:st.h[id]? with
   | none=>exact LE.refl st
   | some b =>
    have same:st.h.set id b=st.h:=by
     have hl:=(List.getElem?_eq_some_iff.1 hb).1;have:=(List.getElem?_eq_some_iff.1 hb).2;rw [<- this,List.set_getElem_self]
    cases b with
    | row e s n g =>
     cases n with
     | zero=>exact Ado hb λj hj=>by omega
     | succ n =>show LE Γ st ⟨st.t,st.h.set id (.row e s (n+1) g)⟩;rw [same];exact LE.refl st
    | cells cs =>show LE Γ st ⟨st.t,st.h.set id (.cells cs)⟩;rw [same];exact LE.refl st
    | imap t n get =>show LE Γ st ⟨st.t,st.h.set id (.imap t n get)⟩;rw [same];exact LE.refl st
    | xrow lk e s n g =>show LE Γ st ⟨st.t,st.h.set id (.xrow lk e s n g)⟩;rw [same];exact LE.refl st
    | jag j =>
     refine Adp hb (λ_ _=>rfl) (λ_ _=>rfl) (λ_ _=>rfl) λk _ q hq=>?_;have:Ae4 q (j.len k)=true:=by
      unfold Ae4;simpa using hq
     rw [this,ER];rfl
    | saved vs =>show LE Γ st ⟨st.t,st.h.set id (.saved vs)⟩;rw [same];exact LE.refl st
    | dead =>show LE Γ st ⟨st.t,st.h.set id .dead⟩;rw [same];exact LE.refl st
def HK (zs:List (Nat×List (Nat×V))) (loops:List (Nat×Lp)) (id:Nat) (f:St->T (Ex×St)) (st:St):T (Ex×St) :=
 match I8 id zs with
 | some l=>BO loops id f (KI st l)
 | none=>BO loops id f st
theorem LI (zs:List (Nat×List (Nat×V))) (ls:List (Nat×Lp)):LLe (HK zs ls) (HK zs ls):=λid f f' st h=>by
 unfold HK;split
 ·exact Bh ls id f f' _ h
 ·exact Bh ls id f f' _ h
def cxZ (G:Nat->V) (tbl:A9) (zs:List (Nat×List (Nat×V))) (loops:List (Nat×Lp)):Cx:=⟨Ax tbl,HK zs loops,G⟩
theorem Wr {P:Program} {G:Nat->V} {tbl:A9} (h:Ao P G tbl) (zs:List (Nat×List (Nat×V))) (loops:List (Nat×Lp)):Bj P (cxZ G tbl zs loops).base∧Ca (cxZ G tbl zs loops):=by
 refine ⟨E7 rfl h,λid f st r hr=>?_⟩;have hr:(HK zs loops id f st).sem=some r:=hr;have by':∀ st,(BO loops id f st).sem=some r->LRun (cxZ G tbl zs loops).base f st r:=λst hr=>by
  unfold BO at hr;split at hr
  ·exact Ht hr
  ·cases hr
 unfold HK at hr;split at hr
 ·exact .run (.weak (Yh _ _) (by' _ hr))
 ·exact .run (by' _ hr)
noncomputable def isR (Γ:Cx0) (r:Ex×St):(St->T (Ex×St))->St->Bool:=λf st=>@decide (LRun Γ f st r) (Classical.propDecidable _)
end Go.Sy
namespace Go.Proofs.YtkbafjceglhjhaaGreatDoor.Ed
open Go.Sy
def Es (n:Nat) (f:Nat->E6):Bool:=Bi n λi=>ieq (Bg (f i)) 0
theorem Fb {n:Nat} {f:Nat->E6}:Es n f=true↔∀ i,i<n->Bg (f i)=0:=by
 unfold Es;rw [AE];simp [ieq]
theorem JQ (f g:Nat->E6):∀ d i,Gj f g d i=true↔∀ j,i <= j->j<i+d->f j=g j
 | 0,i=>by
  simp only [Gj,true_iff];intro j h1 h2; omega
 | d+1,i=>by
  unfold Gj;cases h:eqE (f i) (g i) with
  | true =>
   have h0:=(Jn _ _).1 h;show Gj f g d (i+1)=true↔_;rw [JQ f g d (i+1)];constructor
   ·intro q j h1 h2
    by_cases hj:j=i
    ·subst hj; exact h0
    ·exact q j (by omega) (by omega)
   ·intro q j h1 h2; exact q j (by omega) (by omega)
  | false =>
   constructor
   ·intro q; cases q
   ·intro q
    have:=(Jn _ _).2 (q i (Nat.le_refl _) (by omega));rw [this] at h; cases h
theorem Vr (n:Nat) (f:Nat->E6):DC n f n f=true:=by
 unfold DC;rw [AbY];exact (JQ f f n 0).2 λ_ _ _=>rfl
end Go.Proofs.YtkbafjceglhjhaaGreatDoor.Ed
namespace Go.Proofs.YtkbafjceglhjhaaGreatDoor.Ed
open Go.Sy
theorem Zx {n:Nat}:Bi n (λ_=>true)=true:=AE.2 λ_ _=>rfl
def kL (n:Nat):Kn:=⟨Bi n λ_=>true,true,Zx⟩
def Cg (g:Nat->V):Nat->Nat->V
 | 0=>λ_=>.und
 | i+1=>AG i (Cg g i) (g i)
theorem I3 (g:Nat->V):∀ n j,j<n->Cg g n j=g j
 | 0,j,h=>by omega
 | n+1,j,h=>by
  rw [show Cg g (n+1) j=AG n (Cg g n) (g n) j from rfl,Bu];show (bif Nat.beq j n then g n else Cg g n j)=_;cases hb:Nat.beq j n with
  | true =>rw [Nat.eq_of_beq_eq_true hb];rfl
  | false =>have:=Nat.ne_of_beq_eq_false hb;exact I3 g n j (by omega)
theorem S4 {i n b c:Nat} (h:i<n) (hb:b <= c) (hn:n * c <= 140737488355328):Bp i 1 b=true:=by
 refine decide_eq_true ?_;have h1:(i+1) * b <= n * b:=Nat.mul_le_mul_right b (by omega);have h2:n * b <= n * c:=Nat.mul_le_mul_left n hb;omega
theorem Jm {n:Nat} (hn:CU n=true):n <= 4611686018427387904:=by
 have hn:n * 40 <= 140737488355328:=of_decide_eq_true hn;omega
def cdV (f:Nat->E6):Nat->V:=λi=>iV (BQ (f i))
theorem Ul (p:Nat->Bool):∀ n,Bi n p=false->∃ e,e<n∧p e=false∧∀ t,t<e->p t=true
 | 0,h=>by cases h
 | n+1,h=>by
  cases hn:Bi n p with
  | false =>obtain ⟨e,h1,h2,h3⟩:=Ul p n hn;exact ⟨e,by omega,h2,h3⟩
  | true =>
   refine ⟨n,by omega,?_,λt ht=>AE.1 hn t ht⟩;cases hp:p n with
   | false=>rfl
   | true =>
    have:Bi (n+1) p=true:=AE.2 λi hi=>by
     by_cases hi':i=n
     ·rw [hi',hp]
     ·exact AE.1 hn i (by omega)
    rw [this] at h; cases h
theorem AcD {e:E6} (h:Bg e ≠ 0):Bg e=30:=by
 rcases Eo e with ⟨_,_,h1,_⟩ | ⟨h1,_⟩
 ·exact absurd h1 h
 ·exact h1
theorem AaW {n:Nat} {f:Nat->E6} (h:Es n f=false):∃ e,e<n∧Bg (f e)=30∧∀ t,t<e->Bg (f t)=0:=by
 obtain ⟨e,h1,h2,h3⟩:=Ul _ n h;refine ⟨e,h1,AcD λh0=>?_,λt ht=>by simpa [ieq] using h3 t ht⟩;rw [h0] at h2;cases h2
def AcC:List V->A3:=H5 λn f=>.br (CU n) (.br (Es n f) (.leaf (.tup [.ref 0,iV 0],[.row 3 1 n λi=>iV (BQ (f i))])) (.leaf (.tup [.ref 0,iV 30],[.row 3 1 0 λ_=>.und]))) .fail
end Go.Proofs.YtkbafjceglhjhaaGreatDoor.Ed
namespace Go.Proofs.YtkbafjceglhjhaaGreatDoor.Ed
open Go.Sy
def GU (n:Nat):List (Nat×Lp):=[(0,⟨[],1000,[],1000,n⟩),(1,⟨[],1000,[],1000,n⟩),(2,⟨[],1000,[],1000,n⟩),(3,⟨[],1000,[],1000,n⟩),(4,⟨[],1000,[],1000,n⟩),(5,⟨[],1000,[],1000,n⟩),(6,⟨[],1000,[],1000,n⟩)]
noncomputable def cy0:A9:=[(21,Ny NU),(32,ap2 gI toE λa e=>out (Ov a e)),(28,BV λe=>iV (Bg e))]
noncomputable def B83:List V->A3:=λvs=>A0 (Ai tab (AP Gl cy0 (GU 30)) Tryz.f105 vs [])
noncomputable def Aoc:A9:=(83,B83)::cy0
noncomputable def ApP:List V->A3:=λvs=>A0 (Ai tab (AP Gl Aoc (GU 30)) Tryz.f193 vs [])
noncomputable def Ahy:A9:=(108,ApP)::Aoc
noncomputable def B88:List V->A3:=λvs=>A0 (Ai tab (AP Gl Ahy (GU 30)) Tryz.f171 vs [])
noncomputable def Aoa:A9:=(88,B88)::Ahy
noncomputable def B89:List V->A3:=λvs=>A0 (Ai tab (AP Gl Aoa (GU 30)) Tryz.f172 vs [])
noncomputable def AnZ:A9:=(89,B89)::Aoa
noncomputable def B90:List V->A3:=λvs=>A0 (Ai tab (AP Gl AnZ (GU 30)) Tryz.f173 vs [])
noncomputable def AnY:A9:=(90,B90)::AnZ
noncomputable def B93:List V->A3:=λvs=>A0 (Ai tab (AP Gl AnY (GU 30)) Tryz.f176 vs [])
noncomputable def AnV:A9:=(93,B93)::AnY
noncomputable def B87:List V->A3:=λvs=>A0 (Ai tab (AP Gl AnV (GU 30)) Tryz.f170 vs [])
noncomputable def Aob:A9:=(87,B87)::AnV
noncomputable def B92:List V->A3:=λvs=>A0 (Ai tab (AP Gl Aob (GU 30)) Tryz.f175 vs [])
noncomputable def AnX:A9:=(92,B92)::Aob
noncomputable def B91:List V->A3:=λvs=>A0 (Ai tab (AP Gl AnX (GU 30)) Tryz.f174 vs [])
noncomputable def ApE:A9:=(91,B91)::AnX
noncomputable def B86:List V->A3:=λvs=>A0 (Ai tab (AP Gl ApE (GU 30)) Tryz.f169 vs [])
end Go.Proofs.YtkbafjceglhjhaaGreatDoor.Ed
