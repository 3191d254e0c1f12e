/-
  The frame of laws on shapes: an argument that is a shape, read. No conditions.
-/
import Derived.Test.YtkbafjceglhjhaaGreatDoorEdK
import Derived.Test.YtkbafjceglhjhaaGreatDoorShW
namespace Go.Proofs.YtkbafjceglhjhaaGreatDoor.Sh
open Go.Sy Ed
set_option maxRecDepth 100000
def Ahe {H:Type} (t:TypeId) (d:DataW H):Prop:=(d.weights Tryz.prog t).all (· <= reachBytes)=true
def Kl {H:Type} {α:Type} (enc:TypeId×Value->H) (W:World) (sp:Nat->Bool) (held:Bool) (t:TypeId) (g:α->V) (B:α->Prop):Prop :=
 ∀ fuel cs d ps,DataW.trod enc Tryz.prog W 0 sp held fuel t cs=some (d,ps) ->
  ∃ a ci,VR (Mf W) W (g a) noK ci∧ci.cells.toList=cs∧(∀ u ∈ cs,u.oneCell'=true)∧(Ahe t d->B a)
def AlX {α:Type} (g:α->V):Prop:=∀ (S:Nat->Prop) (w:World) (a:α) (c:Value),VR S w (g a) noK c->c.cells.toList=[c]
def V7 {H:Type} (enc:TypeId×Value->H) (W:World) (sp:Nat->Bool) (held:Bool) (fuel:Nat):List TypeId->List Value->List (DataW H)->Prop
 | [],[],[]=>True
 | t::ts,c::cs,d::ds=>(∃ ps,DataW.trod enc Tryz.prog W 0 sp held fuel t [c]=some (d,ps))∧V7 enc W sp held fuel ts cs ds
 | _,_,_=>False
def TB {H:Type} {α:Type} (enc:TypeId×Value->H) (W:World) (sp:Nat->Bool) (held:Bool) (ts:List TypeId) (g:α->List V) (B:α->Prop):Prop :=
 ∀ fuel cs ds,V7 enc W sp held fuel ts cs ds ->
  ∃ a,VRs (Mf W) W (g a) noK cs∧(∀ u ∈ cs,u.oneCell'=true)∧((DataW.weightsEach Tryz.prog ts ds).all (· <= reachBytes)=true->B a)
section
variable {H:Type} {enc:TypeId×Value->H} {W:World} {sp:Nat->Bool} {held:Bool} {r:Reach} {b0:Nat}
theorem TN {fuel:Nat}:∀ (ts:List TypeId) (cs:List Value) (xs:List (DataW H×List MemPlace)),cs.length=ts.length->xs.length=ts.length ->
  (∀ (i:Nat) t c,ts[i]? = some t->cs[i]? = some c->DataW.trod enc Tryz.prog W 0 sp held fuel t [c]=xs[i]?)->V7 enc W sp held fuel ts cs (xs.map (·.1))
 | [],[],[],_,_,_=>trivial
 | t::ts,c::cs,x::xs,h1,h2,h=>by
  refine ⟨⟨x.2,?_⟩,TN ts cs xs (by simpa using h1) (by simpa using h2) λi t' c' ht hc=>?_⟩
  ·have:=h 0 t c rfl rfl
   simpa using this
  ·have:=h (i+1) t' c' (by simpa using ht) (by simpa using hc)
   simpa using this
theorem Ol:TB enc W sp held [] (λ_:Unit=>[]) (λ_=>True):=by
 intro fuel cs ds h;cases cs with
 | nil=>exact ⟨(),rfl,(λu hu=>absurd hu (by simp)),λ_=>trivial⟩
 | cons c cs=>exact absurd h (by simp [V7])
theorem Cf {α β:Type} {t:TypeId} {ts:List TypeId} {g:α->V} {B:α->Prop} {g':β->List V} {B':β->Prop} (h:Kl enc W sp held t g B) (h1:AlX g) (ht:TB enc W sp held ts g' B') :
  TB enc W sp held (t::ts) (λp:α×β=>g p.1::g' p.2) (λp=>B p.1∧B' p.2):=by
 intro fuel cs ds hh;cases cs with
 | nil=>cases hh
 | cons c cs =>
  cases ds with
  | nil=>cases hh
  | cons d ds =>
   obtain ⟨⟨ps,hp⟩,hr⟩:=hh;obtain ⟨a,ci,q1,q2,q3,q4⟩:=h fuel [c] d ps hp;obtain ⟨b,p1,p2,p3⟩:=ht fuel cs ds hr;have e:=h1 _ _ _ _ q1;rw [e] at q2;simp only [List.cons.injEq,and_true] at q2;subst q2;refine ⟨(a,b),⟨_,_,rfl,q1,p1⟩,λu hu=>?_,λhf=>?_⟩
   ·rcases List.mem_cons.1 hu with rfl | hu
    ·exact q3 _ (List.mem_cons_self ..)
    ·exact p2 u hu
   ·have hf:(d.weights Tryz.prog t++DataW.weightsEach Tryz.prog ts ds).all (· <= reachBytes)=true:=by
     simpa only [DataW.weightsEach] using hf
    rw [List.all_append,Bool.and_eq_true] at hf;exact ⟨q4 hf.1,p3 hf.2⟩
theorem TU {α:Type}:∀ {i:Nat} {l:List α} {c:α},l[i]? = some c->(l.drop i).take 1=[c]
 | 0,c::l,c',h=>by simp at h; simp [h]
 | i+1,c::l,c',h=>by
  have h:l[i]? = some c':=by simpa using h
  simpa using TU h
theorem KT {α:Type} {g:α->List V} {B:α->Prop} {t:TypeId} {fs:Array Field} (ht:Tryz.prog.underlying t=some (.struct fs)) (hn:Tryz.prog.cellsOf t=fs.size)
  (hf:∀ (i:Nat) (f:Field),fs[i]? = some f->f.offset=i∧Tryz.prog.cellsOf f.type=1) (h:TB enc W sp held (fs.toList.map (·.type)) g B):Kl enc W sp held t (λa=>.agg (g a)) B:=by
 intro fuel cs d ps hx;obtain ⟨xs,n,_,hd,hl,hlx,hi⟩:=DataW.trod_struct ht hx;simp only [Prod.mk.injEq] at hd;have hT:V7 enc W sp held n (fs.toList.map (·.type)) cs (xs.map (·.1)):=by
  refine TN _ _ _ (by simp [hl,hn]) (by simp [hlx]) λi t' c ht' hc=>?_;rw [List.getElem?_map,Option.map_eq_some_iff] at ht';obtain ⟨f,hfi,rfl⟩:=ht';have hfi:fs[i]? = some f:=by simpa using hfi
  have h2:=hi i f hfi;rw [(hf i f hfi).1,(hf i f hfi).2,TU hc] at h2;exact h2
 obtain ⟨a,q1,q2,q3⟩:=h n cs _ hT;refine ⟨a,.agg cs.toArray,⟨cs,rfl,q1⟩,rfl,q2,λhh=>q3 ?_⟩;have hh:(d.weights Tryz.prog t).all (· <= reachBytes)=true:=hh
 rw [hd.1] at hh;unfold DataW.weights at hh;rw [ht] at hh;exact hh
theorem D5:Kl enc W sp held 3 iV (λ_=>True):=by
 intro fuel cs d ps h;obtain ⟨n,rfl,_⟩:=DataW.trod_int Tryz.underlying3 h;exact ⟨n,_,rfl,rfl,λu hu=>by simp at hu; subst hu; rfl,λ_=>trivial⟩
theorem GP:AlX iV:=by
 rintro S w a c h
 have h:c = .int .i64 a:=h;subst h;rfl
theorem MV {e:TypeId} {p:Nat->Bool}:∀ {ds:List (DataW H)},(DataW.weightsAll Tryz.prog e ds).all p=true->∀ d ∈ ds,(d.weights Tryz.prog e).all p=true
 | d::ds,h,d',hd=>by
  have h:(d.weights Tryz.prog e++DataW.weightsAll Tryz.prog e ds).all p=true:=by simpa only [DataW.weightsAll] using h
  rw [List.all_append,Bool.and_eq_true] at h;rcases List.mem_cons.1 hd with rfl | hd
  ·exact h.1
  ·exact MV h.2 d' hd
theorem Fu {α:Type} [Inhabited α] {g:α->V} {B:α->Prop} {t e:TypeId} {s:Nat} (ht:Tryz.prog.underlying t=some (.slice e)) (hs:Tryz.prog.cellsOf e=s) (hs0:0<s) (h:Kl enc W sp held e g B) :
  Kl enc W sp held t (λp:Nat×(Nat->α)=>.sl s p.1 λi=>g (p.2 i)) (λp=>p.1 * Tryz.prog.bytesOf e <= reachBytes∧∀ i,i<p.1->B (p.2 i)):=by
 intro fuel cs d ps hf;rcases DataW.trod_slice ht hf with ⟨rfl,hx⟩ | ⟨a',len,cap,elems,rest,n,_,rfl,hx,_,hl,_,hlen,hE,_,_⟩
 ·refine ⟨(0,λ_=>default),_,⟨none,0,rfl,Nat.le_refl _,.inl rfl⟩,rfl,λu hu=>by simp at hu; subst hu; rfl,λ_=>⟨by simp,λi hi=>by omega⟩⟩
 ·simp only [Prod.mk.injEq] at hx
  have hex:∀ i,i<len->∃ x:α,∃ ci,VR (Mf W) W (g x) noK ci∧(∀ u ∈ ci.cells.toList,u.oneCell'=true)∧W.cells? 0 (a'.add (i * s)) s=some ci.cells.toList∧(∀ di,(elems.map (·.1))[i]? = some di->Ahe e di->B x):=by
   intro i hi;have:=hE i hi;have hi':i<elems.length:=by omega
   rw [List.getElem?_eq_getElem hi',Option.bind_eq_some_iff,hs] at this;obtain ⟨cs,h1,h2⟩:=this;obtain ⟨x,ci,q1,q2,q3,q4⟩:=h _ _ _ _ h2;subst q2;refine ⟨x,ci,q1,q3,h1,λdi hdi hF=>q4 ?_⟩;rw [List.getElem?_map,List.getElem?_eq_getElem hi'] at hdi;simp only [Option.map_some,Option.some.injEq] at hdi;have hdi:(elems.get ⟨i,hi'⟩).1=di:=hdi;rw [hdi];exact hF
  refine ⟨(len,λi=>if h:i<len then (hex i h).choose else default),_,⟨some a',cap,rfl,hl,?_⟩,rfl,λu hu=>by simp at hu; subst hu; rfl,λhF=>?_⟩
  ·by_cases hz:len=0
   ·exact .inl hz
   right;obtain ⟨b,off,spot⟩:=a';have hspot:spot=none:=by
    obtain ⟨ci,_,_,q3,_⟩:=(hex 0 (by omega)).choose_spec;have:=(World.cells?_some q3);have h2:=this.2.2 0 (by omega);have hl:0<ci.cells.toList.length:=by omega
    rw [List.getElem?_eq_getElem hl] at h2;simpa [Addr.add] using World.cell?_spot h2
   subst hspot;refine ⟨b,off,rfl,λi hi=>?_⟩;obtain ⟨ci,q1,q2,q3,_⟩:=(hex i hi).choose_spec;have hc:=World.cells?_some q3;refine ⟨ci,by simp only [hi,dif_pos]; exact q1,?_,q2,?_⟩
   ·rw [<- Array.length_toList]; exact hc.2.1
   ·intro j u hj
    have hjs:j<s:=by
     have:=(List.getElem?_eq_some_iff.1 hj).1;have h3:=hc.2.1;omega
    have:=hc.2.2 j hjs;rw [hj] at this;have e1:((⟨b,off,none⟩:Addr).add (i * s)).add j=⟨b,off+i * s+j,none⟩:=by
     rw [CJ,CJ]
    rw [e1] at this;exact ⟨Tr this,this⟩
  ·have hF:(d.weights Tryz.prog t).all (· <= reachBytes)=true:=hF
   rw [hx.1] at hF;unfold DataW.weights at hF;rw [ht] at hF;simp only [List.all_cons,Bool.and_eq_true,List.all_append,decide_eq_true_eq] at hF;refine ⟨?_,λi hi=>?_⟩
   ·have h1:=hF.1
    simp only [List.length_map] at h1;rw [hlen] at h1;exact Nat.le_trans (Nat.mul_le_mul_right _ (Nat.le_add_right _ _)) h1
   ·obtain ⟨ci,_,_,_,q4⟩:=(hex i hi).choose_spec
    simp only [hi,dif_pos];have hi':i<(elems.map (·.1)).length:=by simp [hlen,hi]
    exact q4 _ (List.getElem?_eq_getElem hi') (MV hF.2.1 _ (List.getElem_mem hi'))
theorem Sv {α:Type} {g:α->V} {s:Nat}:AlX (λp:Nat×(Nat->α)=>.sl s p.1 λi=>g (p.2 i)):=by
 rintro S w a c ⟨b,cap,rfl,_⟩
 rfl
theorem VK:Kl enc W sp held 76 eV (λ_=>True):=by
 intro fuel cs d ps h;obtain ⟨e,rfl⟩:=Xg fuel cs _ h;exact ⟨e,_,Ahc _ _ _ e,rfl,λu hu=>by simp [Xo] at hu; rcases hu with rfl | rfl | rfl | rfl | rfl | rfl <;> rfl,λ_=>trivial⟩
theorem Qx {α β:Type} {t:TypeId} {g:α->V} {B:α->Prop} {g':β->V} {B':β->Prop} (k:α->β) (hg:∀ a,g a=g' (k a)) (hB:∀ a,B a->B' (k a)) (h:Kl enc W sp held t g B):Kl enc W sp held t g' B':=by
 intro fuel cs d ps hx;obtain ⟨a,ci,q1,q2,q3,q4⟩:=h fuel cs d ps hx;exact ⟨k a,ci,by rw [<- hg]; exact q1,q2,q3,λhF=>hB a (q4 hF)⟩
theorem TS:Kl enc W sp held 74 evV (λ_=>True) :=
 Qx (λp:Int×Int×Int×Int×Int×Unit=>⟨p.1,p.2.1,p.2.2.1,p.2.2.2.1,p.2.2.2.2.1⟩) (λ_=>rfl) (λ_ _=>trivial)
  (KT Tryz.underlying74 (by kernel_rfl) (λi f hi=>by
   match i,hi with
   | 0,hi=>cases hi; exact ⟨rfl,by kernel_rfl⟩
   | 1,hi=>cases hi; exact ⟨rfl,by kernel_rfl⟩
   | 2,hi=>cases hi; exact ⟨rfl,by kernel_rfl⟩
   | 3,hi=>cases hi; exact ⟨rfl,by kernel_rfl⟩
   | 4,hi=>cases hi; exact ⟨rfl,by kernel_rfl⟩
   | _+5,hi=>simp at hi)
   (Cf D5 GP (Cf D5 GP (Cf D5 GP (Cf D5 GP (Cf D5 GP Ol))))))
instance:Inhabited Ev5:=⟨⟨0,0,0,0,0⟩⟩
structure FitS (s:Sh7):Prop where
 ne:s.ne * 40 <= reachBytes
 nx:s.nx * 40 <= reachBytes
 nr:s.nr * 8 <= reachBytes
 nc:s.nc * 24 <= reachBytes
 ln:∀ i,i<s.nc->(s.C i).1 * 8 <= reachBytes
theorem TR:Kl enc W sp held 27 E2 FitS :=
 Qx (λp:Int×(Nat×(Nat->E6))×(Nat×(Nat->Ev5))×Int×Int×(Nat×(Nat->Int))×(Nat×(Nat->Nat×(Nat->Int)))×Unit =>
     ⟨p.1,p.2.1.1,p.2.1.2,p.2.2.1.1,p.2.2.1.2,p.2.2.2.1,p.2.2.2.2.1,p.2.2.2.2.2.1.1,p.2.2.2.2.2.1.2,p.2.2.2.2.2.2.1.1,p.2.2.2.2.2.2.1.2⟩) (λ_=>rfl)
  (λp h=>⟨by have h0:=h.2.1.1; rwa [show Tryz.prog.bytesOf 76=40 by kernel_rfl] at h0,by have h0:=h.2.2.1.1; rwa [show Tryz.prog.bytesOf 74=40 by kernel_rfl] at h0,by have h0:=h.2.2.2.2.2.1.1; rwa [show Tryz.prog.bytesOf 3=8 by kernel_rfl] at h0,by have h0:=h.2.2.2.2.2.2.1.1; rwa [show Tryz.prog.bytesOf 24=24 by kernel_rfl] at h0,λi hi=>by have h0:=(h.2.2.2.2.2.2.1.2 i hi).1; rwa [show Tryz.prog.bytesOf 3=8 by kernel_rfl] at h0⟩)
  (KT Tryz.underlying27 (by kernel_rfl) (λi f hi=>by
   match i,hi with
   | 0,hi=>cases hi; exact ⟨rfl,by kernel_rfl⟩
   | 1,hi=>cases hi; exact ⟨rfl,by kernel_rfl⟩
   | 2,hi=>cases hi; exact ⟨rfl,by kernel_rfl⟩
   | 3,hi=>cases hi; exact ⟨rfl,by kernel_rfl⟩
   | 4,hi=>cases hi; exact ⟨rfl,by kernel_rfl⟩
   | 5,hi=>cases hi; exact ⟨rfl,by kernel_rfl⟩
   | 6,hi=>cases hi; exact ⟨rfl,by kernel_rfl⟩
   | _+7,hi=>simp at hi)
   (Cf D5 GP<|Cf (Fu Tryz.underlying22 (by kernel_rfl) (by decide) VK) Sv<|Cf (Fu Tryz.underlying23 (by kernel_rfl) (by decide) TS) Sv <|
    Cf D5 GP<|Cf D5 GP<|Cf (Fu Tryz.underlying24 (by kernel_rfl) (by decide) D5) Sv <|
    Cf (Fu Tryz.underlying25 (by kernel_rfl) (by decide) (Fu Tryz.underlying24 (by kernel_rfl) (by decide) D5)) (Sv (g:=λp:Nat×(Nat->Int)=>V.sl 1 p.1 λi=>iV (p.2 i)) (s:=1)) Ol))
theorem Uo {v:Value} {d:DataW H} {ps:List MemPlace} (hval:Value.okWide Tryz.prog W r b0 27 v) (h:DataW.Trod enc Tryz.prog W 0 sp held 27 v d ps):∃ s:Sh7,AiM W v (E2 s)∧(Ahe 27 d->FitS s):=by
 obtain ⟨fuel,hf⟩:=h;obtain ⟨cs,rfl,_⟩:=WideShapes.okWide_struct Tryz.underlying27 hval;obtain ⟨s,ci,q1,q2,_,q4⟩:=TR _ _ _ _ hf;refine ⟨s,?_,q4⟩;obtain ⟨ca,rfl,q1⟩:=q1;have e:cs=ca.toArray:=by
  have:ca=cs.toList:=q2;rw [this]
 show VR (Mf W) W (E2 s) noK (.agg cs);rw [e];exact ⟨ca,rfl,q1⟩
theorem AgF {ts:List TypeId} {ds:List (DataW H)} (h:(DataW.weightsEach Tryz.prog ts ds).all (· <= reachBytes)=true):∀ {j:Nat} {t:TypeId} {d:DataW H},ts[j]? = some t->ds[j]? = some d->Ahe t d:=by
 induction ts generalizing ds with
 | nil=>intro j t d ht; simp at ht
 | cons t0 ts ih =>
  intro j t d ht hd;cases ds with
  | nil=>simp at hd
  | cons d0 ds =>
   have h:(d0.weights Tryz.prog t0++DataW.weightsEach Tryz.prog ts ds).all (· <= reachBytes)=true:=by simpa only [DataW.weightsEach] using h
   rw [List.all_append,Bool.and_eq_true] at h;cases j with
   | zero =>simp at ht hd;subst ht hd;exact h.1
   | succ j=>exact ih h.2 (by simpa using ht) (by simpa using hd)
end
end Go.Proofs.YtkbafjceglhjhaaGreatDoor.Sh
namespace Go.Proofs.YtkbafjceglhjhaaGreatDoor.Sh
open Go.Sy Ed
open Int (ofNat)
set_option maxHeartbeats 1000000
set_option maxRecDepth 100000
noncomputable def AlH (n:Nat) (f:Nat->E6):Bool:=@decide (∃ a,IsCycle a n f) (Classical.propDecidable _)
theorem Vr {n:Nat} {f:Nat->E6}:AlH n f=true↔∃ a,IsCycle a n f:=by
 unfold AlH;exact @decide_eq_true_iff _ (Classical.propDecidable _)
noncomputable def tb56:AE:=(51,KB)::(152,Cc λe=>bV (A9 e))::(77,NC)::[]
theorem tb56_ok:Ar Tryz.prog Gl tb56:=.cons p93 <| .cons p60 <| .cons p69 .nil
section
variable (n:Nat) (f:Nat->E6)
def h53 (l:List Blk):List Blk:=.row 76 6 0 Ab :: .row 76 6 n (λi=>eV (Dc n f i))::l
def S53 (c:Int) (_:Unit):St:=⟨jsV 27 0 Ab [(2,.ref 0),(3,.ref 1),(5,iV c)],h53 n f []⟩
def E53 (q:Int):Ex×St:=(.rt,⟨jsV 27 0 Ab [(2,.ref 2)],h53 n f [.row 76 6 n (λi=>eV (KP n (λi=>Dc n f i) q i))]⟩)
def AoV:Ex×St:=(.ex 0,⟨jsV 27 0 Ab [(2,.ref 0)],h53 n f []⟩)
def g53 (i:Nat) (_:Unit):T (Unit ⊕ (Ex×St)):=.br (A9 (Dc n f i)) (.leaf (.inr (E53 n f (wr .i64 (Ai (ofNat i) 1))))) (.leaf (.inl ()))
end
def Aop:Lp:=⟨bmK 27 0 [2,3,5],2,bmK 27 0 [2],3,4611686018427387905⟩
def Aln:List (Nat×Lp×List (Nat×(Nat->V))):=[(0,Aop,[])]
noncomputable def B53 (L:LT):St->T (Ex×St):=λst=>AK tab ⟨A2 tb56,L,Gl⟩ (A3 Tryz.f108 0) 0 st
theorem r53 (L:LT) {n:Nat} {f:Nat->E6} (hf:Dg n=true) (hn:n <= 16) (h1:Cz (λi=>A9 (Dc n f i)) n<n) (h2:A9 (Dc n f (Cz (λi=>A9 (Dc n f i)) n))=true) (h3:∀ i,i<Cz (λi=>A9 (Dc n f i)) n->A9 (Dc n f i)=false) :
  (A4 (B53 L) Aop 4611686018427387905 (S53 n f 0 ())).sem=some (E53 n f (ofNat (Cz (λi=>A9 (Dc n f i)) n+1))):=by
 rw [<- A5 (n:=n) h1 (by omega)];exact AW (R:=exR) BG (S:=λc a _=>S53 n f c a) (j:=λ_=>.und) (g:=g53 n f) (fin:=λ_=>AoV n f) (e:=E53 n f (wr .i64 (Ai (ofNat (Cz (λi=>A9 (Dc n f i)) n)) 1))) (n:=n) (by omega)
  (λi a j r hi he=>DK.ok (L:=goR (λc a _=>S53 n f c a) exR i) (.k (ofNat_lt hi) <| .k (Ae hi) <| .k (decide_eq_true hi) <| .c (λh1=>.k h1 <| .k (eL n) <| .k hf <| .k (eR [(n,none)]) .l) λh1=>.k h1 .l) (by kernel_rfl) he)
  (λa j=>DK.ok (C:=.leaf (AoV n f)) (L:=exR) (.k (Az (Nat.le_refl n)) .l) (by kernel_rfl) rfl) (Nat.zero_add _).symm (by omega)
  (Gh (acc:=λ_=>()) (m:=Cz (λi=>A9 (Dc n f i)) n) (λi hi=>by unfold g53; rw [h3 i hi]; rfl) (by unfold g53; rw [h2]; rfl) n 0 (by omega) (by omega))
theorem Zj {n k:Nat}:ED n (ofNat k)=k % n:=by
 unfold ED;rw [E0];have:ilt (ofNat (k % n)) 0=false:=by simp [ilt]; omega
 rw [this];rfl
noncomputable def AdB:List V->AA:=HL λn f=>.br (Dg n) (.br (AlH n f) (.leaf (.ref 0,[.row 76 6 n λi=>eV (shG n f i)])) .fail) .fail
theorem p56:As Tryz.prog Gl 108 AdB:=by
 refine Am A0 mixed Tryz.func108 (by kernel_rfl) (by kernel_rfl) λvs v h' h=>?_;obtain ⟨n,f,ha,h⟩:=DC h;obtain ⟨hn,h⟩:=Ad h;obtain ⟨hc,h⟩:=Ad h;have:=Aa h;simp only [Prod.mk.injEq] at this;obtain ⟨rfl,rfl⟩:=this;obtain ⟨a,hy⟩:=Vr.1 hc;have hhi:=hy.hi;obtain ⟨z1,z2,z3,z4⟩:=Kq hy;have hx:=Bd tb56_ok Aln (G:=Gl);refine ⟨_,cxA Gl tb56 Aln,_,ha,rfl,hx.1,hx.2,DK.of (C:=.leaf (.ref 0,[.row 76 6 n λi=>eV (KP n (λi=>Dc n f i) (ofNat (Cz (λi=>A9 (Dc n f i)) n+1)) i)])) rfl (.k (eL n) <| .k hn <| .k hy.may <| .a (r53 (Go.Sy.askL Aln) hn hhi z1 z2 z3) .l) (by kernel_rfl),Aw.one λi hi=>?_⟩
 rw [RX hi];unfold KP shQ;rw [Zj]
def I4 (n:Nat) (g:Nat->E6) (x:Nat->Ev5) (lc:Int) (i:Nat):Bool:=Ak (ieq (x i).loc lc) (AG (g ((i+(n-1)) % n)))
def MD (n:Nat) (g:Nat->E6) (x:Nat->Ev5) (lc:Int):Int:=bif decide (Cz (I4 n g x lc) n<n) then ofNat (Cz (I4 n g x lc) n) else -1
noncomputable def AjK:AE:=(153,Cc λe=>bV (AG e))::[]
theorem Ae4:Ar Tryz.prog Gl AjK:=.cons p61 .nil
section
variable (s:Sh7) (lc:Int)
def shB (s:Sh7):List V:=[iV s.arch,.sl 6 s.ne (λi=>eV (s.E i)),.sl 5 s.ne (λi=>evV (s.X i)),iV s.tt,iV s.kk,.sl 1 s.nr (λi=>iV (s.R i)),.sl 1 s.nc (λu=>.sl 1 (s.C u).1 (λi=>iV ((s.C u).2 i)))]
def S83 (c:Int) (_:Unit):St:=⟨jsV 37 0 Ab [(1,iV lc),(2,.ptr 0 0),(4,iV 0),(5,iV (ofNat s.ne)),(6,iV c)],[.cells (shB s)]⟩
def E83 (e:Ex) (v:Int):Ex×St:=(e,⟨jsV 37 0 Ab [(4,iV v)],[]⟩)
def g83 (i:Nat) (_:Unit):T (Unit ⊕ (Ex×St)):=.br (ieq (s.X i).loc lc) (.br (AG (s.E (toN (yB s.ne i)))) (.leaf (.inr (E83 .rt (ofNat i)))) (.leaf (.inl ()))) (.leaf (.inl ()))
end
def Aon:Lp:=⟨bmK 37 0 [1,2,4,5,6],1,bmK 37 0 [4],0,4611686018427387905⟩
def Alm:List (Nat×Lp×List (Nat×(Nat->V))):=[(0,Aon,[])]
noncomputable def B83 (L:LT):St->T (Ex×St):=λst=>AK tab ⟨A2 AjK,L,Gl⟩ (A3 Tryz.f157 0) 0 st
theorem Adm {σ ρ:Type} {g:Nat->σ->T (σ ⊕ ρ)} {fin:σ->ρ} {q:Nat->Bool} {a:σ} {x:Nat->ρ} {n:Nat} (hc:∀ i,i<n->(g i a).sem=sel (q i) (some (.inr (x i))) (some (.inl a))):Cm g fin n 0 a=some (bif decide (Cz q n<n) then x (Cz q n) else fin a):=by
 by_cases h:∃ k,k<n∧q k=true
 ·obtain ⟨k,hk,hq⟩:=h
  obtain ⟨h1,h2,h3⟩:=EK hk hq;rw [decide_eq_true (show Cz q n<n by omega)];exact Gh (acc:=λ_=>a) (m:=Cz q n) (λi hi=>by rw [hc i (by omega),h3 i hi]; rfl) (by rw [hc _ (by omega),h2]; rfl) n 0 (by omega) (by omega)
 ·have h0:∀ i,i<n->q i=false:=λi hi=>by
   cases hq:q i with
   | false=>rfl
   | true=>exact absurd ⟨i,hi,hq⟩ h
  rw [J9 h0,decide_eq_false (Nat.lt_irrefl n)];exact Cv (acc:=λ_=>a) (λi hi=>by rw [hc i hi,h0 i hi]; rfl) n 0 (Nat.zero_add n)
theorem r83 (L:LT) (s:Sh7) (lc:Int) (hn:s.ne <= 4611686018427387904):(A4 (B83 L) Aon 4611686018427387905 (S83 s lc 0 ())).sem=some (exR (bif decide (Cz (I4 s.ne s.E s.X lc) s.ne<s.ne) then E83 .rt (ofNat (Cz (I4 s.ne s.E s.X lc) s.ne)) else E83 (.ex 0) 0)) :=
 AW (R:=exR) BG (S:=λc a _=>S83 s lc c a) (j:=λ_=>.und) (g:=g83 s lc) (fin:=λ_=>E83 (.ex 0) 0) (n:=s.ne) hn
  (λi a j r hi he=>DK.ok (L:=goR (λc a _=>S83 s lc c a) exR i) (.k (ofNat_lt hi) <| .k (Ae hi) <| .c (λh1=>.r 8 h1 <| .k (Ll hi) <| .k h1 <| .k (V0 hi hn) <| .r 3 h1 <| .c (λh2=>.k h2 .l) λh2=>.k h2 .l) λh1=>.r 12 h1 <| .k eF .l) (by kernel_rfl) he)
  (λa j=>DK.ok (C:=.leaf (E83 (.ex 0) 0)) (L:=exR) (.k (Az (Nat.le_refl s.ne)) .l) (by kernel_rfl) rfl) (Nat.zero_add _).symm (Nat.lt_succ_of_le hn)
  (Adm (x:=λi=>E83 .rt (ofNat i)) λi hi=>by
   have hx:=LZ (a:=i) (n:=s.ne) (by omega) (by omega);unfold g83 I4;rw [show yB s.ne i=_ from hx];show sel _ (sel (AG (s.E ((i+(s.ne-1)) % s.ne))) _ _) _=_;cases ieq (s.X i).loc lc <;> cases AG (s.E ((i+(s.ne-1)) % s.ne)) <;> rfl)
def WQ:List V->AA
 | [v,.val (.int .i64 lc)]=>apS v λs=>.br (BY s.nx s.ne) (.br (Au s.ne) (.leaf (iV (MD s.ne s.E s.X lc),[])) .fail) .fail
 | _=>.fail
def C83 (s:Sh7) (lc:Int):AA:=.br (decide (Cz (I4 s.ne s.E s.X lc) s.ne<s.ne)) (.leaf (iV (ofNat (Cz (I4 s.ne s.E s.X lc) s.ne)),[])) (.leaf (iV (-1),[]))
theorem Ahj (s:Sh7) (lc:Int):(C83 s lc).sem=some (iV (MD s.ne s.E s.X lc),[]):=by
 unfold C83 MD;cases decide (Cz (I4 s.ne s.E s.X lc) s.ne<s.ne) <;> rfl
theorem p95:As Tryz.prog Gl 157 WQ:=by
 refine Am A0 mixed Tryz.func157 (by kernel_rfl) (by kernel_rfl) λvs v h' h=>?_;unfold WQ at h;split at h
 ·rename_i u lc
  obtain ⟨s,ha,h⟩:=apS_some h;obtain ⟨h1,h⟩:=Ad h;obtain ⟨h2,h⟩:=Ad h;have:=Aa h;simp only [Prod.mk.injEq] at this;obtain ⟨rfl,rfl⟩:=this;have h1:s.nx=s.ne:=Nat.eq_of_beq_eq_true h1;have hn:s.ne <= 4611686018427387904:=of_decide_eq_true h2;have e:E2 s = .agg (shB s):=by
   unfold E2 shB;rw [h1];rfl
  rw [e] at ha;have R:=λq (h:decide (Cz (I4 s.ne s.E s.X lc) s.ne<s.ne)=q)=>(r83 (Go.Sy.askL Alm) s lc hn).trans (congrArg (λq=>some (exR (bif q then E83 .rt (ofNat (Cz (I4 s.ne s.E s.X lc) s.ne)) else E83 (.ex 0) 0))) h);have hx:=Bd Ae4 Alm (G:=Gl);exact ⟨_,cxA Gl AjK Alm,_,AqY ha,rfl,hx.1,hx.2,DK.of (Ahj s lc) (.c (λh=>.a (R true h) .l) λh=>.a (R false h) .l) (by kernel_rfl),Aw.refl _⟩
 ·cases h
noncomputable def AjN:AE:=(157,WQ)::[]
theorem X4:Ar Tryz.prog Gl AjN:=.cons p95 .nil
theorem W5 {p q:Nat->Bool} {n:Nat} (h:∀ i,i<n->p i=q i):Cz p n=Cz q n:=by
 by_cases hp:∃ k,k<n∧p k=true
 ·obtain ⟨k,hk,hpk⟩:=hp
  obtain ⟨h1,h2,h3⟩:=EK hk hpk;exact (S3 (p:=q) (by omega) (by rw [<- h _ (by omega)]; exact h2) (λi hi=>by rw [<- h i (by omega)]; exact h3 i hi)).symm
 ·have h1:∀ i,i<n->p i=false:=λi hi=>by
   cases hpi:p i with
   | false=>rfl
   | true=>exact absurd ⟨i,hi,hpi⟩ hp
  rw [J9 h1,J9 λi hi=>by rw [<- h i hi]; exact h1 i hi]
theorem Aab {n:Nat} {g:Nat->E6} {d:Nat->Bool} {k:Nat} (hk:k<kkN n g):MD n g (evF n g d) (ofNat k)=ofNat (stN (mbF g) n k):=by
 have:Cz (I4 n g (evF n g d) (ofNat k)) n=stN (mbF g) n k:=W5 λi hi=>by
  unfold I4;rw [Db hi,Ac8 hi,Eg,Bool.and_comm];rfl
 unfold MD;rw [this,decide_eq_true (Gy hk).1];rfl
def AjB (ts:List V):List V:=Dh 12 (kill.kills 11 ts)
abbrev dR (n:Nat) (g:Nat->E6):Nat->Nat->Nat->Bool:=dnF n g (loN n g)
def lnR (n:Nat) (g:Nat->E6) (b k:Nat):Nat:=bif Nat.blt k b then lnN (mbF g) (wrF g) n k else 0
def coR (n:Nat) (g:Nat->E6) (b k q:Nat):V:=bif Nat.blt k b then (bif Nat.blt q (lnN (mbF g) (wrF g) n k) then iV (ofNat (coN (mbF g) (wrF g) n k q)) else .und) else .und
section
variable (A:Int) (n:Nat) (g:Nat->E6) (th lo:Nat->Int) (tt:Int) (k:Nat)
def cE4:Blk:=.cells [iV A,.ref 1,.ref 5,iV tt,iV (ofNat (kkN n g)),.ref 6,.jref 7]
def hpX (x r:Nat->V):List Blk:=[.cells [iV 0,.nilS,.nilS,iV 0,iV 0,.nilS,.nilS],.row 76 6 n (λi=>eV (g i)),.row 3 1 n (λi=>iV (th i)),.row 3 1 n (λi=>iV (lo i)),cE4 A n g tt,.row 74 5 n x,.row 3 1 n r,.jag ⟨24,1,k,λ_=>.und,0,3,1,λ_=>true,lnR n g k,λu q=>coR n g k u q,none⟩]
def zI:Int:=MD n g (evF n g (dR n g k 0)) (ofNat k)
def zN:Nat:=stN (mbF g) n k
def xR (i:Nat):Int:=Av (wr .i64 (Ai (zI n g k) (ofNat i))) (ofNat n)
def wvR (t q:Nat):V:=bif Nat.blt q (wcN (wrF g) n (zN n g k) t) then iV (ofNat (coN (mbF g) (wrF g) n k q)) else .und
variable (ts:List V)
def hpY (x r:Nat->V) (m:Nat) (w:Nat->V) (ts:List V):List Blk:=hpX A n g th lo tt k x r++[.saved ts,cE4 A n g tt,.cells [iV 0,.nilS,.nilS,iV 0,iV 0,.nilS,.nilS],.row 3 1 m w]
def hpT (t:Nat) (ts:List V):List Blk:=hpY A n g th lo tt k (λi=>evV (evF n g (dR n g k t) i)) (λi=>iV (rfF n g (dR n g k t) i)) (wcN (wrF g) n (zN n g k) t) (λq=>wvR n g k t q) ts
def T56 (la:V) (c:Int) (h:List Blk):St:=⟨jsV 79 0 Ab [(1,nV k),(2,.ptr 9 0),(4,.ptr 10 0),(5,.ref 11),(6,nV n),(7,iV (zI n g k)),(8,la),(9,iV c)],h⟩
def S56 (c:Int) (_:Unit):St:=T56 n g k (iV (wlN (wrF g) n (zN n g k) (toN c))) c (hpT A n g th lo tt k (toN c) ts)
def E56 (t:Nat) (ts:List V):Ex×St:=(.ex 0,⟨jsV 79 0 Ab [(2,.ptr 9 0),(4,.ptr 10 0),(5,.ref 11)],hpT A n g th lo tt k t ts⟩)
def g56 (i:Nat) (_:Unit):T (Unit ⊕ Nat):=.br (ieq (evF n g (dR n g k i) (toN (xR n g k i))).loc (ofNat k)) (.br (nlt i (Cq (mbF g) n (zN n g k))) (.br (ieq (evF n g (dR n g k i) (toN (xR n g k i))).dir 2) (.leaf (.inl ())) (.leaf (.inl ()))) .fail) (.leaf (.inr i))
end
def lp56:Lp:=⟨bmK 79 0 [1,2,4,5,6,7,8,9],12,bmK 79 0 [2,4,5],12,4611686018427387905⟩
def ls56:List (Nat×Lp×List (Nat×(Nat->V))):=[(0,lp56,[])]
noncomputable def B56 (L:LT):St->T (Ex×St):=λst=>AK tab ⟨A2 AjN,L,Gl⟩ (A3 Tryz.f111 0) 0 st
section
variable {n:Nat} {g:Nat->E6} {k:Nat} (hk:k<kkN n g)
include hk
theorem Amd:zI n g k=ofNat (zN n g k):=Aab hk
theorem zk:zN n g k<n∧DU (mbF g) n (zN n g k)=true∧loN n g (zN n g k)=k:=⟨(Gy hk).1,(Gy hk).2.1,(Gy hk).2.2.1⟩
variable (hn:n <= 16)
include hn
theorem TK {i:Nat} (hi:i<n):xR n g k i=ofNat (rnd n (zN n g k) i)∧rnd n (zN n g k) i<n:=by
 have:=(zk hk).1;unfold xR;rw [Amd hk,Gr (by omega),E0];exact ⟨rfl,Ia (by omega)⟩
theorem TJ {i:Nat} (hi:i<n):Ak (ile 0 (xR n g k i)) (ilt (xR n g k i) (ofNat n))=true:=by
 obtain ⟨e,h⟩:=TK hk hn hi;rw [e];exact Ae h
theorem TI {i:Nat} (hi:i<n):nlt (toN (xR n g k i)) n=true:=by
 obtain ⟨e,h⟩:=TK hk hn hi;rw [e];exact decide_eq_true h
variable {t:Nat}
theorem loc_in (hl:t<Cq (mbF g) n (zN n g k)):ieq (evF n g (dR n g k t) (toN (xR n g k t))).loc (ofNat k)=true:=by
 obtain ⟨z1,z2,z3⟩:=zk hk;have hln:=(Dy z1 z2).2.1;obtain ⟨e,h⟩:=TK hk hn (show t<n by omega);rw [e,show toN (ofNat (rnd n (zN n g k) t))=rnd n (zN n g k) t from rfl,Db h];show ieq (loF n g _) _=true;rw [Ac8 h,show loN n g (rnd n (zN n g k) t)=loN n g (zN n g k) from (H6 (mbF g) n).same (F9 z1 z2 hl),Eg];exact decide_eq_true z3
theorem AfR (hl:Cq (mbF g) n (zN n g k)=t) (ht:t<n):ieq (evF n g (dR n g k t) (toN (xR n g k t))).loc (ofNat k)=false:=by
 obtain ⟨z1,z2,z3⟩:=zk hk;obtain ⟨l1,l2,l3,l4⟩:=Dy z1 z2;obtain ⟨e,h⟩:=TK hk hn ht;rw [e,show toN (ofNat (rnd n (zN n g k) t))=rnd n (zN n g k) t from rfl,Db h];show ieq (loF n g _) _=false;rw [Ac8 h,Eg];refine decide_eq_false λhe=>?_;have hs:DU (mbF g) n (rnd n (zN n g k) t)=true:=by
  unfold DU;rw [GN,show t+(n-1)=(t-1)+n by omega,Um,<- hl];exact l3
 have h2:=(H6 (mbF g) n).apart h z1 hs z2 (he.trans z3.symm);have:=Afl z1 ht (by omega) (show rnd n (zN n g k) t=rnd n (zN n g k) 0 by rw [h2,Un z1]);omega
theorem AqI {fin:Unit->Nat} (hf:fin ()=n):Cm (g56 n g k) fin n 0 ()=some (Cq (mbF g) n (zN n g k)):=by
 obtain ⟨z1,z2,_⟩:=zk hk;obtain ⟨l1,l2,_⟩:=Dy z1 z2;have e:∀ i,i<Cq (mbF g) n (zN n g k)->(g56 n g k i ()).sem=some (.inl ()):=λi hi=>by
  unfold g56;rw [loc_in hk hn hi,show nlt i (Cq (mbF g) n (zN n g k))=true from decide_eq_true hi];cases ieq (evF n g (dR n g k i) (toN (xR n g k i))).dir 2 <;> rfl
 rcases Nat.lt_or_ge (Cq (mbF g) n (zN n g k)) n with h | h
 ·exact Gh (acc:=λ_=>()) e (by unfold g56; rw [AfR hk hn rfl h]; rfl) n 0 (by omega) (by omega)
 ·have h:Cq (mbF g) n (zN n g k)=n:=by omega
  rw [h] at e ⊢;have:=Cv (fin:=fin) (acc:=λ_=>()) e n 0 (Nat.zero_add n);rw [hf] at this;exact this
variable (A:Int) (th lo:Nat->Int) (tt:Int) (ts:List V)
theorem Aa7 (hl:t<Cq (mbF g) n (zN n g k)):t<n∧xR n g k t=ofNat (rnd n (zN n g k) t)∧rnd n (zN n g k) t<n∧(∀ j,dR n g k (t+1) j=(decide (j=rnd n (zN n g k) t) || dR n g k t j))∧wcN (wrF g) n (zN n g k) t <= t:=by
 obtain ⟨z1,z2,z3⟩:=zk hk;have hln:=(Dy z1 z2).2.1;have hdn:=Vo (H6 (mbF g) n) z1 z2 hl;rw [show Bg (mbF g) n (zN n g k)=k from z3] at hdn;exact ⟨by omega,(TK hk hn (by omega)).1,Ia (by omega),hdn,BI _ _⟩
theorem Ai5 (hl:t<Cq (mbF g) n (zN n g k)):ieq (evF n g (dR n g k t) (toN (xR n g k t))).dir 2=wrF g (rnd n (zN n g k) t):=by
 obtain ⟨_,h2,h3,_⟩:=Aa7 hk hn hl;rw [h2,show toN (ofNat (rnd n (zN n g k) t))=rnd n (zN n g k) t from rfl,Db h3];rfl
theorem Ara (hl:t<Cq (mbF g) n (zN n g k)):C4 (wcN (wrF g) n (zN n g k) t) 1 8=true:=by
 obtain ⟨h1,_,_,_,h5⟩:=Aa7 hk hn hl;exact Hf (by omega)
theorem Aa4 (hl:t<Cq (mbF g) n (zN n g k)) (hw:wrF g (rnd n (zN n g k) t)=true):AX (wcN (wrF g) n (zN n g k) t) (λq=>wvR n g k t q) (iV (ofNat (rnd n (zN n g k) t)))=λq=>wvR n g k (t+1) q:=by
 obtain ⟨h1,_⟩:=Aa7 hk hn hl;funext q;rw [BK];unfold wvR;rw [Aa8 hw];by_cases hq:q=wcN (wrF g) n (zN n g k) t
 ·subst hq
  rw [Nat.beq_refl,show Nat.blt (wcN (wrF g) n (zN n g k) t) (wcN (wrF g) n (zN n g k) t+1)=true from Nat.ble_eq_true_of_le (Nat.le_refl _)];unfold coN;rw [show stN (mbF g) n k=zN n g k from rfl,Xz h1 hw];rfl
 ·rw [nbeq_ne hq]
  have:Nat.blt q (wcN (wrF g) n (zN n g k) t+1)=Nat.blt q (wcN (wrF g) n (zN n g k) t):=by
   rw [Bool.eq_iff_iff];simp only [Nat.blt_eq];omega
  rw [this];rfl
theorem AnY (hl:t<Cq (mbF g) n (zN n g k)) (hw:wrF g (rnd n (zN n g k) t)=true) (hT:AjB ts=ts):T56 n g k (iV (xR n g k t)) (wr .i64 (Ai (ofNat t) 1)) (hpY A n g th lo tt k (Wv n g (dR n g k t) (toN (xR n g k t)) (ofNat (BC (wcN (wrF g) n (zN n g k) t) 1))) (λi=>iV (rfF n g (dR n g k t) i)) (BC (wcN (wrF g) n (zN n g k) t) 1) (AX (wcN (wrF g) n (zN n g k) t) (λq=>wvR n g k t q) (iV (xR n g k t))) (AjB ts))=S56 A n g th lo tt k ts (wr .i64 (Ai (ofNat t) 1)) ():=by
 obtain ⟨z1,z2,_⟩:=zk hk;obtain ⟨h1,h2,h3,h4,_⟩:=Aa7 hk hn hl;rw [h2,A5 (n:=n) h1 (by omega),hT,show toN (ofNat (rnd n (zN n g k) t))=rnd n (zN n g k) t from rfl,Aa4 hk hn hl hw,show BC (wcN (wrF g) n (zN n g k) t) 1=wcN (wrF g) n (zN n g k) t+1 from rfl,<- Aa8 hw,
  show Wv n g (dR n g k t) (rnd n (zN n g k) t) (ofNat (wcN (wrF g) n (zN n g k) (t+1)))=λi=>evV (evF n g (dR n g k (t+1)) i) from WT h3 h4 (by rw [RJ (F9 z1 z2 hl)]),<- XK h4 hw,<- Aml hw]
 rfl
theorem AnZ (hl:t<Cq (mbF g) n (zN n g k)) (hw:wrF g (rnd n (zN n g k) t)=false) (hT:Dh 12 ts=ts):T56 n g k (iV (wlN (wrF g) n (zN n g k) t)) (wr .i64 (Ai (ofNat t) 1)) (hpY A n g th lo tt k (Wv n g (dR n g k t) (toN (xR n g k t)) (ofNat (wcN (wrF g) n (zN n g k) t))) (B1 (λi=>iV (rfF n g (dR n g k t) i)) (toN (xR n g k t)) (iV (wlN (wrF g) n (zN n g k) t))) (wcN (wrF g) n (zN n g k) t) (λq=>wvR n g k t q) (Dh 12 ts))=S56 A n g th lo tt k ts (wr .i64 (Ai (ofNat t) 1)) ():=by
 obtain ⟨z1,z2,_⟩:=zk hk;obtain ⟨h1,h2,h3,h4,_⟩:=Aa7 hk hn hl;have hv:=F9 z1 z2 hl;have ew:(λq=>wvR n g k t q)=λq=>wvR n g k (t+1) q:=by
  funext q;unfold wvR;rw [Aa9 hw]
 rw [h2,A5 (n:=n) h1 (by omega),hT,show toN (ofNat (rnd n (zN n g k) t))=rnd n (zN n g k) t from rfl,ew,Ab2 h4 (AhA hv hw).symm,<- Aa9 hw,
  show Wv n g (dR n g k t) (rnd n (zN n g k) t) (ofNat (wcN (wrF g) n (zN n g k) (t+1)))=λi=>evV (evF n g (dR n g k (t+1)) i) from WT h3 h4 (by rw [RJ hv]),<- Amm hw]
 rfl
theorem r56 (hT:AjB ts=ts) (hU:Dh 12 ts=ts):(A4 (B56 (Go.Sy.askL ls56)) lp56 4611686018427387905 (S56 A n g th lo tt k ts 0 ())).sem=some (E56 A n g th lo tt k (Cq (mbF g) n (zN n g k)) ts) :=
 AW (R:=λt=>E56 A n g th lo tt k t ts) (λ_ h=>by cases h) (S:=λc a _=>S56 A n g th lo tt k ts c a) (j:=λ_=>.und) (g:=g56 n g k) (fin:=λ_=>n) (n:=n) (by omega)
  (λi a j r hi he=>DK.ok (L:=goR (λc a _=>S56 A n g th lo tt k ts c a) (λt=>E56 A n g th lo tt k t ts) i) (.r 7 (ofNat_lt hi) <| .k (Ll hi) <| .k (ofNat_lt hi) <| .k (TJ hk hn hi) <| .r 2 (ofNat_lt hi) <| .k (TI hk hn hi) <| .r 3 (ofNat_lt hi) <|
   .c (λh1=>.k h1 <| .g λhl=>.k (Ll hi) <| .k (TJ hk hn hi) <| .k (TI hk hn hi) <| .c (λh2=>.k h2 <| .k (Ara hk hn (of_decide_eq_true hl)) <| .k (TJ hk hn hi) <| .k (TI hk hn hi) <| .e (congrArg (Prod.mk Ex.nm) (AnY hk hn A th lo tt ts (of_decide_eq_true hl) ((Ai5 hk hn (of_decide_eq_true hl)).symm.trans h2) hT)))
    λh2=>.k h2 <| .k (TJ hk hn hi) <| .k (TI hk hn hi) <| .k (TJ hk hn hi) <| .k (TI hk hn hi) <| .e (congrArg (Prod.mk Ex.nm) (AnZ hk hn A th lo tt ts (of_decide_eq_true hl) ((Ai5 hk hn (of_decide_eq_true hl)).symm.trans h2) hU)))
   λh1=>.k h1 <| .e (congrArg (E56 A n g th lo tt k i) hU)) (by kernel_rfl) he)
  (λa j=>DK.ok (C:=.leaf n) (L:=λt=>E56 A n g th lo tt k t ts) (.r 13 (Az (Nat.le_refl n)) <| .k eF <| .e (congrArg (E56 A n g th lo tt k n) hU)) (by kernel_rfl) rfl) (Nat.zero_add _).symm (by omega) (AqI hk hn rfl)
end
end Go.Proofs.YtkbafjceglhjhaaGreatDoor.Sh
