/-
  The frame of laws on shapes: an argument that is a shape, read. No conditions.
-/
import Derived.Test.YtkbafjceglhjhaaGreatDoorEdK
import Derived.Test.YtkbafjceglhjhaaGreatDoorShW
namespace Go.Proofs.YtkbafjceglhjhaaGreatDoor.Sh
open Go.Sy Ed
set_option maxRecDepth 100000
def Afe {H:Type} (t:TypeId) (d:DataW H):Prop:=(d.weights Tryz.prog t).all (· <= reachBytes)=true
def Kh {H:Type} {α:Type} (enc:TypeId×Value->H) (W:World) (sp:Nat->Bool) (held:Bool) (t:TypeId) (g:α->V) (B:α->Prop):Prop :=
 ∀ fuel cs d ps,DataW.trod enc Tryz.prog W 0 sp held fuel t cs=some (d,ps) ->
  ∃ a ci,VR (N4 W) W (g a) noK ci∧ci.cells.toList=cs∧(∀ u ∈ cs,u.oneCell'=true)∧(Afe t d->B a)
def AmT {α:Type} (g:α->V):Prop:=∀ (S:Nat->Prop) (w:World) (a:α) (c:Value),VR S w (g a) noK c->c.cells.toList=[c]
def VN {H:Type} (enc:TypeId×Value->H) (W:World) (sp:Nat->Bool) (held:Bool) (fuel:Nat):List TypeId->List Value->List (DataW H)->Prop
 | [],[],[]=>True
 | t::ts,c::cs,d::ds=>(∃ ps,DataW.trod enc Tryz.prog W 0 sp held fuel t [c]=some (d,ps))∧VN enc W sp held fuel ts cs ds
 | _,_,_=>False
def TO {H:Type} {α:Type} (enc:TypeId×Value->H) (W:World) (sp:Nat->Bool) (held:Bool) (ts:List TypeId) (g:α->List V) (B:α->Prop):Prop :=
 ∀ fuel cs ds,VN enc W sp held fuel ts cs ds ->
  ∃ a,VRs (N4 W) W (g a) noK cs∧(∀ u ∈ cs,u.oneCell'=true)∧((DataW.weightsEach Tryz.prog ts ds).all (· <= reachBytes)=true->B a)
section
variable {H:Type} {enc:TypeId×Value->H} {W:World} {sp:Nat->Bool} {held:Bool} {r:Reach} {b0:Nat}
theorem TZ {fuel:Nat}:∀ (ts:List TypeId) (cs:List Value) (xs:List (DataW H×List MemPlace)),cs.length=ts.length->xs.length=ts.length ->
  (∀ (i:Nat) t c,ts[i]? = some t->cs[i]? = some c->DataW.trod enc Tryz.prog W 0 sp held fuel t [c]=xs[i]?)->VN enc W sp held fuel ts cs (xs.map (·.1))
 | [],[],[],_,_,_=>trivial
 | t::ts,c::cs,x::xs,h1,h2,h=>by
  refine ⟨⟨x.2,?_⟩,TZ ts cs xs (by simpa using h1) (by simpa using h2) λi t' c' ht hc=>?_⟩
  ·have:=h 0 t c rfl rfl
   simpa using this
  ·have:=h (i+1) t' c' (by simpa using ht) (by simpa using hc)
   simpa using this
theorem Oa:TO enc W sp held [] (λ_:Unit=>[]) (λ_=>True):=by
 intro fuel cs ds h;cases cs with
 | nil=>exact ⟨(),rfl,(λu hu=>absurd hu (by simp)),λ_=>trivial⟩
 | cons c cs=>exact absurd h (by simp [VN])
theorem Ci {α β:Type} {t:TypeId} {ts:List TypeId} {g:α->V} {B:α->Prop} {g':β->List V} {B':β->Prop} (h:Kh enc W sp held t g B) (h1:AmT g) (ht:TO enc W sp held ts g' B') :
  TO enc W sp held (t::ts) (λp:α×β=>g p.1::g' p.2) (λp=>B p.1∧B' p.2):=by
 intro fuel cs ds hh;cases cs with
 | nil=>cases hh
 | cons c cs =>
  cases ds with
  | nil=>cases hh
  | cons d ds =>
   obtain ⟨⟨ps,hp⟩,hr⟩:=hh;obtain ⟨a,ci,q1,q2,q3,q4⟩:=h fuel [c] d ps hp;obtain ⟨b,p1,p2,p3⟩:=ht fuel cs ds hr;have e:=h1 _ _ _ _ q1;rw [e] at q2;simp only [List.cons.injEq,and_true] at q2;subst q2;refine ⟨(a,b),⟨_,_,rfl,q1,p1⟩,λu hu=>?_,λhf=>?_⟩
   ·rcases List.mem_cons.1 hu with rfl | hu
    ·exact q3 _ (List.mem_cons_self ..)
    ·exact p2 u hu
   ·have hf:(d.weights Tryz.prog t++DataW.weightsEach Tryz.prog ts ds).all (· <= reachBytes)=true:=by
     simpa only [DataW.weightsEach] using hf
    rw [List.all_append,Bool.and_eq_true] at hf;exact ⟨q4 hf.1,p3 hf.2⟩
theorem Ug {α:Type}:∀ {i:Nat} {l:List α} {c:α},l[i]? = some c->(l.drop i).take 1=[c]
 | 0,c::l,c',h=>by simp at h; simp [h]
 | i+1,c::l,c',h=>by
  have h:l[i]? = some c':=by simpa using h
  simpa using Ug h
theorem KL {α:Type} {g:α->List V} {B:α->Prop} {t:TypeId} {fs:Array Field} (ht:Tryz.prog.underlying t=some (.struct fs)) (hn:Tryz.prog.cellsOf t=fs.size)
  (hf:∀ (i:Nat) (f:Field),fs[i]? = some f->f.offset=i∧Tryz.prog.cellsOf f.type=1) (h:TO enc W sp held (fs.toList.map (·.type)) g B):Kh enc W sp held t (λa=>.agg (g a)) B:=by
 intro fuel cs d ps hx;obtain ⟨xs,n,_,hd,hl,hlx,hi⟩:=DataW.trod_struct ht hx;simp only [Prod.mk.injEq] at hd;have hT:VN enc W sp held n (fs.toList.map (·.type)) cs (xs.map (·.1)):=by
  refine TZ _ _ _ (by simp [hl,hn]) (by simp [hlx]) λi t' c ht' hc=>?_;rw [List.getElem?_map,Option.map_eq_some_iff] at ht';obtain ⟨f,hfi,rfl⟩:=ht';have hfi:fs[i]? = some f:=by simpa using hfi
  have h2:=hi i f hfi;rw [(hf i f hfi).1,(hf i f hfi).2,Ug hc] at h2;exact h2
 obtain ⟨a,q1,q2,q3⟩:=h n cs _ hT;refine ⟨a,.agg cs.toArray,⟨cs,rfl,q1⟩,rfl,q2,λhh=>q3 ?_⟩;have hh:(d.weights Tryz.prog t).all (· <= reachBytes)=true:=hh
 rw [hd.1] at hh;unfold DataW.weights at hh;rw [ht] at hh;exact hh
theorem D1:Kh enc W sp held 3 iV (λ_=>True):=by
 intro fuel cs d ps h;obtain ⟨n,rfl,_⟩:=DataW.trod_int Tryz.underlying3 h;exact ⟨n,_,rfl,rfl,λu hu=>by simp at hu; subst hu; rfl,λ_=>trivial⟩
theorem GP:AmT iV:=by
 rintro S w a c h
 have h:c = .int .i64 a:=h;subst h;rfl
theorem MO {e:TypeId} {p:Nat->Bool}:∀ {ds:List (DataW H)},(DataW.weightsAll Tryz.prog e ds).all p=true->∀ d ∈ ds,(d.weights Tryz.prog e).all p=true
 | d::ds,h,d',hd=>by
  have h:(d.weights Tryz.prog e++DataW.weightsAll Tryz.prog e ds).all p=true:=by simpa only [DataW.weightsAll] using h
  rw [List.all_append,Bool.and_eq_true] at h;rcases List.mem_cons.1 hd with rfl | hd
  ·exact h.1
  ·exact MO h.2 d' hd
theorem Fq {α:Type} [Inhabited α] {g:α->V} {B:α->Prop} {t e:TypeId} {s:Nat} (ht:Tryz.prog.underlying t=some (.slice e)) (hs:Tryz.prog.cellsOf e=s) (hs0:0<s) (h:Kh enc W sp held e g B) :
  Kh enc W sp held t (λp:Nat×(Nat->α)=>.sl s p.1 λi=>g (p.2 i)) (λp=>p.1 * Tryz.prog.bytesOf e <= reachBytes∧∀ i,i<p.1->B (p.2 i)):=by
 intro fuel cs d ps hf;rcases DataW.trod_slice ht hf with ⟨rfl,hx⟩ | ⟨a',len,cap,elems,rest,n,_,rfl,hx,_,hl,_,hlen,hE,_,_⟩
 ·refine ⟨(0,λ_=>default),_,⟨none,0,rfl,Nat.le_refl _,.inl rfl⟩,rfl,λu hu=>by simp at hu; subst hu; rfl,λ_=>⟨by simp,λi hi=>by omega⟩⟩
 ·simp only [Prod.mk.injEq] at hx
  have hex:∀ i,i<len->∃ x:α,∃ ci,VR (N4 W) W (g x) noK ci∧(∀ u ∈ ci.cells.toList,u.oneCell'=true)∧W.cells? 0 (a'.add (i * s)) s=some ci.cells.toList∧(∀ di,(elems.map (·.1))[i]? = some di->Afe e di->B x):=by
   intro i hi;have:=hE i hi;have hi':i<elems.length:=by omega
   rw [List.getElem?_eq_getElem hi',Option.bind_eq_some_iff,hs] at this;obtain ⟨cs,h1,h2⟩:=this;obtain ⟨x,ci,q1,q2,q3,q4⟩:=h _ _ _ _ h2;subst q2;refine ⟨x,ci,q1,q3,h1,λdi hdi hF=>q4 ?_⟩;rw [List.getElem?_map,List.getElem?_eq_getElem hi'] at hdi;simp only [Option.map_some,Option.some.injEq] at hdi;have hdi:(elems.get ⟨i,hi'⟩).1=di:=hdi;rw [hdi];exact hF
  refine ⟨(len,λi=>if h:i<len then (hex i h).choose else default),_,⟨some a',cap,rfl,hl,?_⟩,rfl,λu hu=>by simp at hu; subst hu; rfl,λhF=>?_⟩
  ·by_cases hz:len=0
   ·exact .inl hz
   right;obtain ⟨b,off,spot⟩:=a';have hspot:spot=none:=by
    obtain ⟨ci,_,_,q3,_⟩:=(hex 0 (by omega)).choose_spec;have:=(World.cells?_some q3);have h2:=this.2.2 0 (by omega);have hl:0<ci.cells.toList.length:=by omega
    rw [List.getElem?_eq_getElem hl] at h2;simpa [Addr.add] using World.cell?_spot h2
   subst hspot;refine ⟨b,off,rfl,λi hi=>?_⟩;obtain ⟨ci,q1,q2,q3,_⟩:=(hex i hi).choose_spec;have hc:=World.cells?_some q3;refine ⟨ci,by simp only [hi,dif_pos]; exact q1,?_,q2,?_⟩
   ·rw [<- Array.length_toList]; exact hc.2.1
   ·intro j u hj
    have hjs:j<s:=by
     have:=(List.getElem?_eq_some_iff.1 hj).1;have h3:=hc.2.1;omega
    have:=hc.2.2 j hjs;rw [hj] at this;have e1:((⟨b,off,none⟩:Addr).add (i * s)).add j=⟨b,off+i * s+j,none⟩:=by
     rw [Dg,Dg]
    rw [e1] at this;exact ⟨Zm this,this⟩
  ·have hF:(d.weights Tryz.prog t).all (· <= reachBytes)=true:=hF
   rw [hx.1] at hF;unfold DataW.weights at hF;rw [ht] at hF;simp only [List.all_cons,Bool.and_eq_true,List.all_append,decide_eq_true_eq] at hF;refine ⟨?_,λi hi=>?_⟩
   ·have h1:=hF.1
    simp only [List.length_map] at h1;rw [hlen] at h1;exact Nat.le_trans (Nat.mul_le_mul_right _ (Nat.le_add_right _ _)) h1
   ·obtain ⟨ci,_,_,_,q4⟩:=(hex i hi).choose_spec
    simp only [hi,dif_pos];have hi':i<(elems.map (·.1)).length:=by simp [hlen,hi]
    exact q4 _ (List.getElem?_eq_getElem hi') (MO hF.2.1 _ (List.getElem_mem hi'))
theorem S5 {α:Type} {g:α->V} {s:Nat}:AmT (λp:Nat×(Nat->α)=>.sl s p.1 λi=>g (p.2 i)):=by
 rintro S w a c ⟨b,cap,rfl,_⟩
 rfl
theorem We:Kh enc W sp held 76 eV (λ_=>True):=by
 intro fuel cs d ps h;obtain ⟨e,rfl⟩:=X5 fuel cs _ h;exact ⟨e,_,Aic _ _ _ e,rfl,λu hu=>by simp [XA] at hu; rcases hu with rfl | rfl | rfl | rfl | rfl | rfl <;> rfl,λ_=>trivial⟩
theorem Qz {α β:Type} {t:TypeId} {g:α->V} {B:α->Prop} {g':β->V} {B':β->Prop} (k:α->β) (hg:∀ a,g a=g' (k a)) (hB:∀ a,B a->B' (k a)) (h:Kh enc W sp held t g B):Kh enc W sp held t g' B':=by
 intro fuel cs d ps hx;obtain ⟨a,ci,q1,q2,q3,q4⟩:=h fuel cs d ps hx;exact ⟨k a,ci,by rw [<- hg]; exact q1,q2,q3,λhF=>hB a (q4 hF)⟩
theorem Ud:Kh enc W sp held 74 evV (λ_=>True) :=
 Qz (λp:Int×Int×Int×Int×Int×Unit=>⟨p.1,p.2.1,p.2.2.1,p.2.2.2.1,p.2.2.2.2.1⟩) (λ_=>rfl) (λ_ _=>trivial)
  (KL Tryz.underlying74 (by kernel_rfl) (λi f hi=>by
   match i,hi with
   | 0,hi=>cases hi; exact ⟨rfl,by kernel_rfl⟩
   | 1,hi=>cases hi; exact ⟨rfl,by kernel_rfl⟩
   | 2,hi=>cases hi; exact ⟨rfl,by kernel_rfl⟩
   | 3,hi=>cases hi; exact ⟨rfl,by kernel_rfl⟩
   | 4,hi=>cases hi; exact ⟨rfl,by kernel_rfl⟩
   | _+5,hi=>simp at hi)
   (Ci D1 GP (Ci D1 GP (Ci D1 GP (Ci D1 GP (Ci D1 GP Oa))))))
instance:Inhabited Ev5:=⟨⟨0,0,0,0,0⟩⟩
structure FitS (s:Sh7):Prop where
 ne:s.ne * 40 <= reachBytes
 nx:s.nx * 40 <= reachBytes
 nr:s.nr * 8 <= reachBytes
 nc:s.nc * 24 <= reachBytes
 ln:∀ i,i<s.nc->(s.C i).1 * 8 <= reachBytes
theorem Uc:Kh enc W sp held 27 EC FitS :=
 Qz (λp:Int×(Nat×(Nat->E6))×(Nat×(Nat->Ev5))×Int×Int×(Nat×(Nat->Int))×(Nat×(Nat->Nat×(Nat->Int)))×Unit =>
     ⟨p.1,p.2.1.1,p.2.1.2,p.2.2.1.1,p.2.2.1.2,p.2.2.2.1,p.2.2.2.2.1,p.2.2.2.2.2.1.1,p.2.2.2.2.2.1.2,p.2.2.2.2.2.2.1.1,p.2.2.2.2.2.2.1.2⟩) (λ_=>rfl)
  (λp h=>⟨by have h0:=h.2.1.1; rwa [show Tryz.prog.bytesOf 76=40 by kernel_rfl] at h0,by have h0:=h.2.2.1.1; rwa [show Tryz.prog.bytesOf 74=40 by kernel_rfl] at h0,by have h0:=h.2.2.2.2.2.1.1; rwa [show Tryz.prog.bytesOf 3=8 by kernel_rfl] at h0,by have h0:=h.2.2.2.2.2.2.1.1; rwa [show Tryz.prog.bytesOf 24=24 by kernel_rfl] at h0,λi hi=>by have h0:=(h.2.2.2.2.2.2.1.2 i hi).1; rwa [show Tryz.prog.bytesOf 3=8 by kernel_rfl] at h0⟩)
  (KL Tryz.underlying27 (by kernel_rfl) (λi f hi=>by
   match i,hi with
   | 0,hi=>cases hi; exact ⟨rfl,by kernel_rfl⟩
   | 1,hi=>cases hi; exact ⟨rfl,by kernel_rfl⟩
   | 2,hi=>cases hi; exact ⟨rfl,by kernel_rfl⟩
   | 3,hi=>cases hi; exact ⟨rfl,by kernel_rfl⟩
   | 4,hi=>cases hi; exact ⟨rfl,by kernel_rfl⟩
   | 5,hi=>cases hi; exact ⟨rfl,by kernel_rfl⟩
   | 6,hi=>cases hi; exact ⟨rfl,by kernel_rfl⟩
   | _+7,hi=>simp at hi)
   (Ci D1 GP<|Ci (Fq Tryz.underlying22 (by kernel_rfl) (by decide) We) S5<|Ci (Fq Tryz.underlying23 (by kernel_rfl) (by decide) Ud) S5 <|
    Ci D1 GP<|Ci D1 GP<|Ci (Fq Tryz.underlying24 (by kernel_rfl) (by decide) D1) S5 <|
    Ci (Fq Tryz.underlying25 (by kernel_rfl) (by decide) (Fq Tryz.underlying24 (by kernel_rfl) (by decide) D1)) (S5 (g:=λp:Nat×(Nat->Int)=>V.sl 1 p.1 λi=>iV (p.2 i)) (s:=1)) Oa))
theorem Uy {v:Value} {d:DataW H} {ps:List MemPlace} (hval:Value.okWide Tryz.prog W r b0 27 v) (h:DataW.Trod enc Tryz.prog W 0 sp held 27 v d ps):∃ s:Sh7,AjE W v (EC s)∧(Afe 27 d->FitS s):=by
 obtain ⟨fuel,hf⟩:=h;obtain ⟨cs,rfl,_⟩:=WideShapes.okWide_struct Tryz.underlying27 hval;obtain ⟨s,ci,q1,q2,_,q4⟩:=Uc _ _ _ _ hf;refine ⟨s,?_,q4⟩;obtain ⟨ca,rfl,q1⟩:=q1;have e:cs=ca.toArray:=by
  have:ca=cs.toList:=q2;rw [this]
 show VR (N4 W) W (EC s) noK (.agg cs);rw [e];exact ⟨ca,rfl,q1⟩
theorem YW {ts:List TypeId} {ds:List (DataW H)} (h:(DataW.weightsEach Tryz.prog ts ds).all (· <= reachBytes)=true):∀ {j:Nat} {t:TypeId} {d:DataW H},ts[j]? = some t->ds[j]? = some d->Afe t d:=by
 induction ts generalizing ds with
 | nil=>intro j t d ht; simp at ht
 | cons t0 ts ih =>
  intro j t d ht hd;cases ds with
  | nil=>simp at hd
  | cons d0 ds =>
   have h:(d0.weights Tryz.prog t0++DataW.weightsEach Tryz.prog ts ds).all (· <= reachBytes)=true:=by simpa only [DataW.weightsEach] using h
   rw [List.all_append,Bool.and_eq_true] at h;cases j with
   | zero =>simp at ht hd;subst ht hd;exact h.1
   | succ j=>exact ih h.2 (by simpa using ht) (by simpa using hd)
end
end Go.Proofs.YtkbafjceglhjhaaGreatDoor.Sh
namespace Go.Proofs.YtkbafjceglhjhaaGreatDoor.Sh
open Go.Sy Ed
open Int (ofNat)
set_option maxHeartbeats 1000000
set_option maxRecDepth 100000
noncomputable def Am7 (n:Nat) (f:Nat->E6):Bool:=@decide (∃ a,IsCycle a n f) (Classical.propDecidable _)
theorem V5 {n:Nat} {f:Nat->E6}:Am7 n f=true↔∃ a,IsCycle a n f:=by
 unfold Am7;exact @decide_eq_true_iff _ (Classical.propDecidable _)
noncomputable def AkA:A7:=(51,Hv)::(152,BX λe=>bV (AB e))::(77,KG)::[]
theorem Af7:Ao Tryz.prog Gl AkA:=.cons p93 <| .cons p60 <| .cons p69 .nil
section
variable (n:Nat) (f:Nat->E6)
def h53 (l:List Blk):List Blk:=.row 76 6 0 Aa :: .row 76 6 n (λi=>eV (C5 n f i))::l
def S53 (c:Int) (_:Unit):St:=⟨jsV 27 0 Aa [(2,.ref 0),(3,.ref 1),(5,iV c)],h53 n f []⟩
def E53 (q:Int):Ex×St:=(.rt,⟨jsV 27 0 Aa [(2,.ref 2)],h53 n f [.row 76 6 n (λi=>eV (KH n (λi=>C5 n f i) q i))]⟩)
def Aq1:Ex×St:=(.ex 0,⟨jsV 27 0 Aa [(2,.ref 0)],h53 n f []⟩)
def g53 (i:Nat) (_:Unit):T (Unit ⊕ (Ex×St)):=.br (AB (C5 n f i)) (.leaf (.inr (E53 n f (wr .i64 (Ai (ofNat i) 1))))) (.leaf (.inl ()))
end
def lp53:Lp:=⟨bmK 27 0 [2,3,5],2,bmK 27 0 [2],3,4611686018427387905⟩
def ls53:List (Nat×Lp×List (Nat×(Nat->V))):=[(0,lp53,[])]
noncomputable def B53 (L:LT):St->T (Ex×St):=λst=>AA tab ⟨Aw AkA,L,Gl⟩ (As Tryz.f108 0) 0 st
theorem r53 (L:LT) {n:Nat} {f:Nat->E6} (hf:Ct n=true) (hn:n <= 16) (h1:Cu (λi=>AB (C5 n f i)) n<n) (h2:AB (C5 n f (Cu (λi=>AB (C5 n f i)) n))=true) (h3:∀ i,i<Cu (λi=>AB (C5 n f i)) n->AB (C5 n f i)=false) :
  (Av (B53 L) lp53 4611686018427387905 (S53 n f 0 ())).sem=some (E53 n f (ofNat (Cu (λi=>AB (C5 n f i)) n+1))):=by
 rw [<- A3 (n:=n) h1 (by omega)];exact AZ (R:=exR) BF (S:=λc a _=>S53 n f c a) (j:=λ_=>.und) (g:=g53 n f) (fin:=λ_=>Aq1 n f) (e:=E53 n f (wr .i64 (Ai (ofNat (Cu (λi=>AB (C5 n f i)) n)) 1))) (n:=n) (by omega)
  (λi a j r hi he=>DK.ok (L:=goR (λc a _=>S53 n f c a) exR i) (.k (ofNat_lt hi) <| .k (Ad hi) <| .k (decide_eq_true hi) <| .c (λh1=>.k h1 <| .k (eL n) <| .k hf <| .k (eR [(n,none)]) .l) λh1=>.k h1 .l) (by kernel_rfl) he)
  (λa j=>DK.ok (C:=.leaf (Aq1 n f)) (L:=exR) (.k (A1 (Nat.le_refl n)) .l) (by kernel_rfl) rfl) (Nat.zero_add _).symm (by omega)
  (Gf (acc:=λ_=>()) (m:=Cu (λi=>AB (C5 n f i)) n) (λi hi=>by unfold g53; rw [h3 i hi]; rfl) (by unfold g53; rw [h2]; rfl) n 0 (by omega) (by omega))
theorem Z8 {n k:Nat}:E4 n (ofNat k)=k % n:=by
 unfold E4;rw [Et];have:ilt (ofNat (k % n)) 0=false:=by simp [ilt]; omega
 rw [this];rfl
noncomputable def Aer:List V->A5:=Hy λn f=>.br (Ct n) (.br (Am7 n f) (.leaf (.ref 0,[.row 76 6 n λi=>eV (shG n f i)])) .fail) .fail
theorem p56:Ap Tryz.prog Gl 108 Aer:=by
 refine Ah A2 mixed Tryz.func108 (by kernel_rfl) (by kernel_rfl) λvs v h' h=>?_;obtain ⟨n,f,ha,h⟩:=CM h;obtain ⟨hn,h⟩:=Ac h;obtain ⟨hc,h⟩:=Ac h;have:=Ab h;simp only [Prod.mk.injEq] at this;obtain ⟨rfl,rfl⟩:=this;obtain ⟨a,hy⟩:=V5.1 hc;have hhi:=hy.hi;obtain ⟨z1,z2,z3,z4⟩:=Kk hy;have hx:=AS Af7 ls53 (G:=Gl);refine ⟨_,cxA Gl AkA ls53,_,ha,rfl,hx.1,hx.2,DK.of (C:=.leaf (.ref 0,[.row 76 6 n λi=>eV (KH n (λi=>C5 n f i) (ofNat (Cu (λi=>AB (C5 n f i)) n+1)) i)])) rfl (.k (eL n) <| .k hn <| .k hy.may <| .a (r53 (Go.Sy.askL ls53) hn hhi z1 z2 z3) .l) (by kernel_rfl),Am.one λi hi=>?_⟩
 rw [Sb hi];unfold KH shQ;rw [Z8]
def IG (n:Nat) (g:Nat->E6) (x:Nat->Ev5) (lc:Int) (i:Nat):Bool:=Al (ieq (x i).loc lc) (AH (g ((i+(n-1)) % n)))
def M8 (n:Nat) (g:Nat->E6) (x:Nat->Ev5) (lc:Int):Int:=bif decide (Cu (IG n g x lc) n<n) then ofNat (Cu (IG n g x lc) n) else -1
noncomputable def Ak4:A7:=(153,BX λe=>bV (AH e))::[]
theorem Afy:Ao Tryz.prog Gl Ak4:=.cons p61 .nil
section
variable (s:Sh7) (lc:Int)
def shB (s:Sh7):List V:=[iV s.arch,.sl 6 s.ne (λi=>eV (s.E i)),.sl 5 s.ne (λi=>evV (s.X i)),iV s.tt,iV s.kk,.sl 1 s.nr (λi=>iV (s.R i)),.sl 1 s.nc (λu=>.sl 1 (s.C u).1 (λi=>iV ((s.C u).2 i)))]
def S83 (c:Int) (_:Unit):St:=⟨jsV 37 0 Aa [(1,iV lc),(2,.ptr 0 0),(4,iV 0),(5,iV (ofNat s.ne)),(6,iV c)],[.cells (shB s)]⟩
def E83 (e:Ex) (v:Int):Ex×St:=(e,⟨jsV 37 0 Aa [(4,iV v)],[]⟩)
def g83 (i:Nat) (_:Unit):T (Unit ⊕ (Ex×St)):=.br (ieq (s.X i).loc lc) (.br (AH (s.E (toN (yB s.ne i)))) (.leaf (.inr (E83 .rt (ofNat i)))) (.leaf (.inl ()))) (.leaf (.inl ()))
end
def ApG:Lp:=⟨bmK 37 0 [1,2,4,5,6],1,bmK 37 0 [4],0,4611686018427387905⟩
def Ama:List (Nat×Lp×List (Nat×(Nat->V))):=[(0,ApG,[])]
noncomputable def B83 (L:LT):St->T (Ex×St):=λst=>AA tab ⟨Aw Ak4,L,Gl⟩ (As Tryz.f157 0) 0 st
theorem AdQ {σ ρ:Type} {g:Nat->σ->T (σ ⊕ ρ)} {fin:σ->ρ} {q:Nat->Bool} {a:σ} {x:Nat->ρ} {n:Nat} (hc:∀ i,i<n->(g i a).sem=sel (q i) (some (.inr (x i))) (some (.inl a))):Co g fin n 0 a=some (bif decide (Cu q n<n) then x (Cu q n) else fin a):=by
 by_cases h:∃ k,k<n∧q k=true
 ·obtain ⟨k,hk,hq⟩:=h
  obtain ⟨h1,h2,h3⟩:=EA hk hq;rw [decide_eq_true (show Cu q n<n by omega)];exact Gf (acc:=λ_=>a) (m:=Cu q n) (λi hi=>by rw [hc i (by omega),h3 i hi]; rfl) (by rw [hc _ (by omega),h2]; rfl) n 0 (by omega) (by omega)
 ·have h0:∀ i,i<n->q i=false:=λi hi=>by
   cases hq:q i with
   | false=>rfl
   | true=>exact absurd ⟨i,hi,hq⟩ h
  rw [J6 h0,decide_eq_false (Nat.lt_irrefl n)];exact Cv (acc:=λ_=>a) (λi hi=>by rw [hc i hi,h0 i hi]; rfl) n 0 (Nat.zero_add n)
theorem r83 (L:LT) (s:Sh7) (lc:Int) (hn:s.ne <= 4611686018427387904):(Av (B83 L) ApG 4611686018427387905 (S83 s lc 0 ())).sem=some (exR (bif decide (Cu (IG s.ne s.E s.X lc) s.ne<s.ne) then E83 .rt (ofNat (Cu (IG s.ne s.E s.X lc) s.ne)) else E83 (.ex 0) 0)) :=
 AZ (R:=exR) BF (S:=λc a _=>S83 s lc c a) (j:=λ_=>.und) (g:=g83 s lc) (fin:=λ_=>E83 (.ex 0) 0) (n:=s.ne) hn
  (λi a j r hi he=>DK.ok (L:=goR (λc a _=>S83 s lc c a) exR i) (.k (ofNat_lt hi) <| .k (Ad hi) <| .c (λh1=>.r 8 h1 <| .k (Io hi) <| .k h1 <| .k (VG hi hn) <| .r 3 h1 <| .c (λh2=>.k h2 .l) λh2=>.k h2 .l) λh1=>.r 12 h1 <| .k eF .l) (by kernel_rfl) he)
  (λa j=>DK.ok (C:=.leaf (E83 (.ex 0) 0)) (L:=exR) (.k (A1 (Nat.le_refl s.ne)) .l) (by kernel_rfl) rfl) (Nat.zero_add _).symm (Nat.lt_succ_of_le hn)
  (AdQ (x:=λi=>E83 .rt (ofNat i)) λi hi=>by
   have hx:=LR (a:=i) (n:=s.ne) (by omega) (by omega);unfold g83 IG;rw [show yB s.ne i=_ from hx];show sel _ (sel (AH (s.E ((i+(s.ne-1)) % s.ne))) _ _) _=_;cases ieq (s.X i).loc lc <;> cases AH (s.E ((i+(s.ne-1)) % s.ne)) <;> rfl)
def Xo:List V->A5
 | [v,.val (.int .i64 lc)]=>apS v λs=>.br (BN s.nx s.ne) (.br (Aq s.ne) (.leaf (iV (M8 s.ne s.E s.X lc),[])) .fail) .fail
 | _=>.fail
def C83 (s:Sh7) (lc:Int):A5:=.br (decide (Cu (IG s.ne s.E s.X lc) s.ne<s.ne)) (.leaf (iV (ofNat (Cu (IG s.ne s.E s.X lc) s.ne)),[])) (.leaf (iV (-1),[]))
theorem Aih (s:Sh7) (lc:Int):(C83 s lc).sem=some (iV (M8 s.ne s.E s.X lc),[]):=by
 unfold C83 M8;cases decide (Cu (IG s.ne s.E s.X lc) s.ne<s.ne) <;> rfl
theorem p95:Ap Tryz.prog Gl 157 Xo:=by
 refine Ah A2 mixed Tryz.func157 (by kernel_rfl) (by kernel_rfl) λvs v h' h=>?_;unfold Xo at h;split at h
 ·rename_i u lc
  obtain ⟨s,ha,h⟩:=apS_some h;obtain ⟨h1,h⟩:=Ac h;obtain ⟨h2,h⟩:=Ac h;have:=Ab h;simp only [Prod.mk.injEq] at this;obtain ⟨rfl,rfl⟩:=this;have h1:s.nx=s.ne:=Nat.eq_of_beq_eq_true h1;have hn:s.ne <= 4611686018427387904:=of_decide_eq_true h2;have e:EC s = .agg (shB s):=by
   unfold EC shB;rw [h1];rfl
  rw [e] at ha;have R:=λq (h:decide (Cu (IG s.ne s.E s.X lc) s.ne<s.ne)=q)=>(r83 (Go.Sy.askL Ama) s lc hn).trans (congrArg (λq=>some (exR (bif q then E83 .rt (ofNat (Cu (IG s.ne s.E s.X lc) s.ne)) else E83 (.ex 0) 0))) h);have hx:=AS Afy Ama (G:=Gl);exact ⟨_,cxA Gl Ak4 Ama,_,AsZ ha,rfl,hx.1,hx.2,DK.of (Aih s lc) (.c (λh=>.a (R true h) .l) λh=>.a (R false h) .l) (by kernel_rfl),Am.refl _⟩
 ·cases h
noncomputable def Ak9:A7:=(157,Xo)::[]
theorem XZ:Ao Tryz.prog Gl Ak9:=.cons p95 .nil
theorem WW {p q:Nat->Bool} {n:Nat} (h:∀ i,i<n->p i=q i):Cu p n=Cu q n:=by
 by_cases hp:∃ k,k<n∧p k=true
 ·obtain ⟨k,hk,hpk⟩:=hp
  obtain ⟨h1,h2,h3⟩:=EA hk hpk;exact (NC (p:=q) (by omega) (by rw [<- h _ (by omega)]; exact h2) (λi hi=>by rw [<- h i (by omega)]; exact h3 i hi)).symm
 ·have h1:∀ i,i<n->p i=false:=λi hi=>by
   cases hpi:p i with
   | false=>rfl
   | true=>exact absurd ⟨i,hi,hpi⟩ hp
  rw [J6 h1,J6 λi hi=>by rw [<- h i hi]; exact h1 i hi]
theorem Aa7 {n:Nat} {g:Nat->E6} {d:Nat->Bool} {k:Nat} (hk:k<kkN n g):M8 n g (evF n g d) (ofNat k)=ofNat (stN (mbF g) n k):=by
 have:Cu (IG n g (evF n g d) (ofNat k)) n=stN (mbF g) n k:=WW λi hi=>by
  unfold IG;rw [CV hi,Adt hi,DX,Bool.and_comm];rfl
 unfold M8;rw [this,decide_eq_true (Gt hk).1];rfl
def Akt (ts:List V):List V:=CZ 12 (kill.kills 11 ts)
abbrev dR (n:Nat) (g:Nat->E6):Nat->Nat->Nat->Bool:=dnF n g (loN n g)
def lnR (n:Nat) (g:Nat->E6) (b k:Nat):Nat:=bif Nat.blt k b then lnN (mbF g) (wrF g) n k else 0
def coR (n:Nat) (g:Nat->E6) (b k q:Nat):V:=bif Nat.blt k b then (bif Nat.blt q (lnN (mbF g) (wrF g) n k) then iV (ofNat (coN (mbF g) (wrF g) n k q)) else .und) else .und
section
variable (A:Int) (n:Nat) (g:Nat->E6) (th lo:Nat->Int) (tt:Int) (k:Nat)
def cE4:Blk:=.cells [iV A,.ref 1,.ref 5,iV tt,iV (ofNat (kkN n g)),.ref 6,.jref 7]
def hpX (x r:Nat->V):List Blk:=[.cells [iV 0,.nilS,.nilS,iV 0,iV 0,.nilS,.nilS],.row 76 6 n (λi=>eV (g i)),.row 3 1 n (λi=>iV (th i)),.row 3 1 n (λi=>iV (lo i)),cE4 A n g tt,.row 74 5 n x,.row 3 1 n r,.jag ⟨24,1,k,λ_=>.und,0,3,1,λ_=>true,lnR n g k,λu q=>coR n g k u q,none⟩]
def zI:Int:=M8 n g (evF n g (dR n g k 0)) (ofNat k)
def zN:Nat:=stN (mbF g) n k
def xR (i:Nat):Int:=Ay (wr .i64 (Ai (zI n g k) (ofNat i))) (ofNat n)
def wvR (t q:Nat):V:=bif Nat.blt q (wcN (wrF g) n (zN n g k) t) then iV (ofNat (coN (mbF g) (wrF g) n k q)) else .und
variable (ts:List V)
def hpY (x r:Nat->V) (m:Nat) (w:Nat->V) (ts:List V):List Blk:=hpX A n g th lo tt k x r++[.saved ts,cE4 A n g tt,.cells [iV 0,.nilS,.nilS,iV 0,iV 0,.nilS,.nilS],.row 3 1 m w]
def hpT (t:Nat) (ts:List V):List Blk:=hpY A n g th lo tt k (λi=>evV (evF n g (dR n g k t) i)) (λi=>iV (rfF n g (dR n g k t) i)) (wcN (wrF g) n (zN n g k) t) (λq=>wvR n g k t q) ts
def T56 (la:V) (c:Int) (h:List Blk):St:=⟨jsV 79 0 Aa [(1,nV k),(2,.ptr 9 0),(4,.ptr 10 0),(5,.ref 11),(6,nV n),(7,iV (zI n g k)),(8,la),(9,iV c)],h⟩
def S56 (c:Int) (_:Unit):St:=T56 n g k (iV (wlN (wrF g) n (zN n g k) (toN c))) c (hpT A n g th lo tt k (toN c) ts)
def E56 (t:Nat) (ts:List V):Ex×St:=(.ex 0,⟨jsV 79 0 Aa [(2,.ptr 9 0),(4,.ptr 10 0),(5,.ref 11)],hpT A n g th lo tt k t ts⟩)
def g56 (i:Nat) (_:Unit):T (Unit ⊕ Nat):=.br (ieq (evF n g (dR n g k i) (toN (xR n g k i))).loc (ofNat k)) (.br (nlt i (Cs (mbF g) n (zN n g k))) (.br (ieq (evF n g (dR n g k i) (toN (xR n g k i))).dir 2) (.leaf (.inl ())) (.leaf (.inl ()))) .fail) (.leaf (.inr i))
end
def lp56:Lp:=⟨bmK 79 0 [1,2,4,5,6,7,8,9],12,bmK 79 0 [2,4,5],12,4611686018427387905⟩
def AgE:List (Nat×Lp×List (Nat×(Nat->V))):=[(0,lp56,[])]
noncomputable def B56 (L:LT):St->T (Ex×St):=λst=>AA tab ⟨Aw Ak9,L,Gl⟩ (As Tryz.f111 0) 0 st
section
variable {n:Nat} {g:Nat->E6} {k:Nat} (hk:k<kkN n g)
include hk
theorem AmY:zI n g k=ofNat (zN n g k):=Aa7 hk
theorem zk:zN n g k<n∧DG (mbF g) n (zN n g k)=true∧loN n g (zN n g k)=k:=⟨(Gt hk).1,(Gt hk).2.1,(Gt hk).2.2.1⟩
variable (hn:n <= 16)
include hn
theorem TW {i:Nat} (hi:i<n):xR n g k i=ofNat (rnd n (zN n g k) i)∧rnd n (zN n g k) i<n:=by
 have:=(zk hk).1;unfold xR;rw [AmY hk,FB (by omega),Et];exact ⟨rfl,Ih (by omega)⟩
theorem TV {i:Nat} (hi:i<n):Al (ile 0 (xR n g k i)) (ilt (xR n g k i) (ofNat n))=true:=by
 obtain ⟨e,h⟩:=TW hk hn hi;rw [e];exact Ad h
theorem TU {i:Nat} (hi:i<n):nlt (toN (xR n g k i)) n=true:=by
 obtain ⟨e,h⟩:=TW hk hn hi;rw [e];exact decide_eq_true h
variable {t:Nat}
theorem loc_in (hl:t<Cs (mbF g) n (zN n g k)):ieq (evF n g (dR n g k t) (toN (xR n g k t))).loc (ofNat k)=true:=by
 obtain ⟨z1,z2,z3⟩:=zk hk;have hln:=(Dv z1 z2).2.1;obtain ⟨e,h⟩:=TW hk hn (show t<n by omega);rw [e,show toN (ofNat (rnd n (zN n g k) t))=rnd n (zN n g k) t from rfl,CV h];show ieq (loF n g _) _=true;rw [Adt h,show loN n g (rnd n (zN n g k) t)=loN n g (zN n g k) from (HD (mbF g) n).same (F3 z1 z2 hl),DX];exact decide_eq_true z3
theorem AgQ (hl:Cs (mbF g) n (zN n g k)=t) (ht:t<n):ieq (evF n g (dR n g k t) (toN (xR n g k t))).loc (ofNat k)=false:=by
 obtain ⟨z1,z2,z3⟩:=zk hk;obtain ⟨l1,l2,l3,l4⟩:=Dv z1 z2;obtain ⟨e,h⟩:=TW hk hn ht;rw [e,show toN (ofNat (rnd n (zN n g k) t))=rnd n (zN n g k) t from rfl,CV h];show ieq (loF n g _) _=false;rw [Adt h,DX];refine decide_eq_false λhe=>?_;have hs:DG (mbF g) n (rnd n (zN n g k) t)=true:=by
  unfold DG;rw [GL,show t+(n-1)=(t-1)+n by omega,Uw,<- hl];exact l3
 have h2:=(HD (mbF g) n).apart h z1 hs z2 (he.trans z3.symm);have:=Agj z1 ht (by omega) (show rnd n (zN n g k) t=rnd n (zN n g k) 0 by rw [h2,Ux z1]);omega
theorem AsK {fin:Unit->Nat} (hf:fin ()=n):Co (g56 n g k) fin n 0 ()=some (Cs (mbF g) n (zN n g k)):=by
 obtain ⟨z1,z2,_⟩:=zk hk;obtain ⟨l1,l2,_⟩:=Dv z1 z2;have e:∀ i,i<Cs (mbF g) n (zN n g k)->(g56 n g k i ()).sem=some (.inl ()):=λi hi=>by
  unfold g56;rw [loc_in hk hn hi,show nlt i (Cs (mbF g) n (zN n g k))=true from decide_eq_true hi];cases ieq (evF n g (dR n g k i) (toN (xR n g k i))).dir 2 <;> rfl
 rcases Nat.lt_or_ge (Cs (mbF g) n (zN n g k)) n with h | h
 ·exact Gf (acc:=λ_=>()) e (by unfold g56; rw [AgQ hk hn rfl h]; rfl) n 0 (by omega) (by omega)
 ·have h:Cs (mbF g) n (zN n g k)=n:=by omega
  rw [h] at e ⊢;have:=Cv (fin:=fin) (acc:=λ_=>()) e n 0 (Nat.zero_add n);rw [hf] at this;exact this
variable (A:Int) (th lo:Nat->Int) (tt:Int) (ts:List V)
theorem Abf (hl:t<Cs (mbF g) n (zN n g k)):t<n∧xR n g k t=ofNat (rnd n (zN n g k) t)∧rnd n (zN n g k) t<n∧(∀ j,dR n g k (t+1) j=(decide (j=rnd n (zN n g k) t) || dR n g k t j))∧wcN (wrF g) n (zN n g k) t <= t:=by
 obtain ⟨z1,z2,z3⟩:=zk hk;have hln:=(Dv z1 z2).2.1;have hdn:=V2 (HD (mbF g) n) z1 z2 hl;rw [show Bl (mbF g) n (zN n g k)=k from z3] at hdn;exact ⟨by omega,(TW hk hn (by omega)).1,Ih (by omega),hdn,B2 _ _⟩
theorem Ajw (hl:t<Cs (mbF g) n (zN n g k)):ieq (evF n g (dR n g k t) (toN (xR n g k t))).dir 2=wrF g (rnd n (zN n g k) t):=by
 obtain ⟨_,h2,h3,_⟩:=Abf hk hn hl;rw [h2,show toN (ofNat (rnd n (zN n g k) t))=rnd n (zN n g k) t from rfl,CV h3];rfl
theorem Atc (hl:t<Cs (mbF g) n (zN n g k)):Bs (wcN (wrF g) n (zN n g k) t) 1 8=true:=by
 obtain ⟨h1,_,_,_,h5⟩:=Abf hk hn hl;exact FT (by omega)
theorem Abc (hl:t<Cs (mbF g) n (zN n g k)) (hw:wrF g (rnd n (zN n g k) t)=true):AD (wcN (wrF g) n (zN n g k) t) (λq=>wvR n g k t q) (iV (ofNat (rnd n (zN n g k) t)))=λq=>wvR n g k (t+1) q:=by
 obtain ⟨h1,_⟩:=Abf hk hn hl;funext q;rw [Br];unfold wvR;rw [Abg hw];by_cases hq:q=wcN (wrF g) n (zN n g k) t
 ·subst hq
  rw [Nat.beq_refl,show Nat.blt (wcN (wrF g) n (zN n g k) t) (wcN (wrF g) n (zN n g k) t+1)=true from Nat.ble_eq_true_of_le (Nat.le_refl _)];unfold coN;rw [show stN (mbF g) n k=zN n g k from rfl,XQ h1 hw];rfl
 ·rw [nbeq_ne hq]
  have:Nat.blt q (wcN (wrF g) n (zN n g k) t+1)=Nat.blt q (wcN (wrF g) n (zN n g k) t):=by
   rw [Bool.eq_iff_iff];simp only [Nat.blt_eq];omega
  rw [this];rfl
theorem Apw (hl:t<Cs (mbF g) n (zN n g k)) (hw:wrF g (rnd n (zN n g k) t)=true) (hT:Akt ts=ts):T56 n g k (iV (xR n g k t)) (wr .i64 (Ai (ofNat t) 1)) (hpY A n g th lo tt k (WI n g (dR n g k t) (toN (xR n g k t)) (ofNat (AE (wcN (wrF g) n (zN n g k) t) 1))) (λi=>iV (rfF n g (dR n g k t) i)) (AE (wcN (wrF g) n (zN n g k) t) 1) (AD (wcN (wrF g) n (zN n g k) t) (λq=>wvR n g k t q) (iV (xR n g k t))) (Akt ts))=S56 A n g th lo tt k ts (wr .i64 (Ai (ofNat t) 1)) ():=by
 obtain ⟨z1,z2,_⟩:=zk hk;obtain ⟨h1,h2,h3,h4,_⟩:=Abf hk hn hl;rw [h2,A3 (n:=n) h1 (by omega),hT,show toN (ofNat (rnd n (zN n g k) t))=rnd n (zN n g k) t from rfl,Abc hk hn hl hw,show AE (wcN (wrF g) n (zN n g k) t) 1=wcN (wrF g) n (zN n g k) t+1 from rfl,<- Abg hw,
  show WI n g (dR n g k t) (rnd n (zN n g k) t) (ofNat (wcN (wrF g) n (zN n g k) (t+1)))=λi=>evV (evF n g (dR n g k (t+1)) i) from Xr h3 h4 (by rw [RI (F3 z1 z2 hl)]),<- Ym h4 hw,<- Ani hw]
 rfl
theorem Apx (hl:t<Cs (mbF g) n (zN n g k)) (hw:wrF g (rnd n (zN n g k) t)=false) (hT:CZ 12 ts=ts):T56 n g k (iV (wlN (wrF g) n (zN n g k) t)) (wr .i64 (Ai (ofNat t) 1)) (hpY A n g th lo tt k (WI n g (dR n g k t) (toN (xR n g k t)) (ofNat (wcN (wrF g) n (zN n g k) t))) (BD (λi=>iV (rfF n g (dR n g k t) i)) (toN (xR n g k t)) (iV (wlN (wrF g) n (zN n g k) t))) (wcN (wrF g) n (zN n g k) t) (λq=>wvR n g k t q) (CZ 12 ts))=S56 A n g th lo tt k ts (wr .i64 (Ai (ofNat t) 1)) ():=by
 obtain ⟨z1,z2,_⟩:=zk hk;obtain ⟨h1,h2,h3,h4,_⟩:=Abf hk hn hl;have hv:=F3 z1 z2 hl;have ew:(λq=>wvR n g k t q)=λq=>wvR n g k (t+1) q:=by
  funext q;unfold wvR;rw [Abh hw]
 rw [h2,A3 (n:=n) h1 (by omega),hT,show toN (ofNat (rnd n (zN n g k) t))=rnd n (zN n g k) t from rfl,ew,Acb h4 (AiB hv hw).symm,<- Abh hw,
  show WI n g (dR n g k t) (rnd n (zN n g k) t) (ofNat (wcN (wrF g) n (zN n g k) (t+1)))=λi=>evV (evF n g (dR n g k (t+1)) i) from Xr h3 h4 (by rw [RI hv]),<- Anj hw]
 rfl
theorem r56 (hT:Akt ts=ts) (hU:CZ 12 ts=ts):(Av (B56 (Go.Sy.askL AgE)) lp56 4611686018427387905 (S56 A n g th lo tt k ts 0 ())).sem=some (E56 A n g th lo tt k (Cs (mbF g) n (zN n g k)) ts) :=
 AZ (R:=λt=>E56 A n g th lo tt k t ts) (λ_ h=>by cases h) (S:=λc a _=>S56 A n g th lo tt k ts c a) (j:=λ_=>.und) (g:=g56 n g k) (fin:=λ_=>n) (n:=n) (by omega)
  (λi a j r hi he=>DK.ok (L:=goR (λc a _=>S56 A n g th lo tt k ts c a) (λt=>E56 A n g th lo tt k t ts) i) (.r 7 (ofNat_lt hi) <| .k (Io hi) <| .k (ofNat_lt hi) <| .k (TV hk hn hi) <| .r 2 (ofNat_lt hi) <| .k (TU hk hn hi) <| .r 3 (ofNat_lt hi) <|
   .c (λh1=>.k h1 <| .g λhl=>.k (Io hi) <| .k (TV hk hn hi) <| .k (TU hk hn hi) <| .c (λh2=>.k h2 <| .k (Atc hk hn (of_decide_eq_true hl)) <| .k (TV hk hn hi) <| .k (TU hk hn hi) <| .e (congrArg (Prod.mk Ex.nm) (Apw hk hn A th lo tt ts (of_decide_eq_true hl) ((Ajw hk hn (of_decide_eq_true hl)).symm.trans h2) hT)))
    λh2=>.k h2 <| .k (TV hk hn hi) <| .k (TU hk hn hi) <| .k (TV hk hn hi) <| .k (TU hk hn hi) <| .e (congrArg (Prod.mk Ex.nm) (Apx hk hn A th lo tt ts (of_decide_eq_true hl) ((Ajw hk hn (of_decide_eq_true hl)).symm.trans h2) hU)))
   λh1=>.k h1 <| .e (congrArg (E56 A n g th lo tt k i) hU)) (by kernel_rfl) he)
  (λa j=>DK.ok (C:=.leaf n) (L:=λt=>E56 A n g th lo tt k t ts) (.r 13 (A1 (Nat.le_refl n)) <| .k eF <| .e (congrArg (E56 A n g th lo tt k n) hU)) (by kernel_rfl) rfl) (Nat.zero_add _).symm (by omega) (AsK hk hn rfl)
end
end Go.Proofs.YtkbafjceglhjhaaGreatDoor.Sh
