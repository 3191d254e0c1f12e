/-
  Facts of a shape that passes the check, and of its test. No conditions.
-/
import Derived.Test.YtkgdhhieomndeaaGreatDoorEmL
import Derived.Test.YtkgdhhieomndeaaGreatDoorEmM
import Derived.Test.YtkgdhhieomndeaaGreatDoorShAc
import Derived.Test.YtkgdhhieomndeaaGreatDoorShV
import Derived.Test.YtkgdhhieomndeaaGreatDoorCyZ
import Derived.Test.YtkgdhhieomndeaaGreatDoorEdN
import Derived.Test.YtkgdhhieomndeaaGreatDoorCards
import Derived.Test.YtkgdhhieomndeaaGreatDoorTie
import Derived.ProofKit
import Derived.OpenShut
import Derived.Deep.DeepHandedRow
namespace Go.Proofs.YtkgdhhieomndeaaGreatDoor.Em
open Go.Sy Go Go.Proofs.YtkgdhhieomndeaaGreatDoor.Ed Go.Proofs.YtkgdhhieomndeaaGreatDoor.Sh
open Int (ofNat)
set_option maxRecDepth 100000
set_option maxHeartbeats 1000000
theorem AeJ {s:Sh7} (h:ieq (rtS s) 0=true):s.kk=ofNat (kkN s.ne (shG s.ne s.E))∧s.nc=kkN s.ne (shG s.ne s.E)∧∀ k,k<s.nc->(s.C k).1=lnN (mbF (shG s.ne s.E)) (wrF (shG s.ne s.E)) s.ne k:=by
 have h3:=LY h;unfold Cj at h3;obtain ⟨c1,c2⟩:=AO h3;unfold Fv at c2;obtain ⟨_,c2⟩:=AO c2;obtain ⟨_,c2⟩:=AO c2;obtain ⟨c3,c2⟩:=AO c2;obtain ⟨_,c2⟩:=AO c2;obtain ⟨_,c2⟩:=AO c2;obtain ⟨_,c2⟩:=AO c2;obtain ⟨c4,_⟩:=AO c2;unfold El at c4;obtain ⟨c4,c5⟩:=AO c4;refine ⟨BX c3,Int.ofNat.inj (BX c4),λk hk=>?_⟩;have:=A0.1 c5 k hk;unfold Da at this;exact Int.ofNat.inj (BX (AO this).1)
theorem ok7 {s:Sh7} (h:ieq (rtS s) 0=true) (hs:BG s=true):Rq s=true∧VI s=true∧wrB s=true∧(∀ u,(wsS s).lw u<40)∧(axS s).length <= 1023∧toN s.tt <= 16∧toN s.kk <= 16:=by
 have hck:=LY h;obtain ⟨e1,e2,e3⟩:=AeJ h;have H:IsSh s:=K5 s.arch s.ne s.E s.nx s.X s.tt s.kk s.nr s.R s.nc (λu=>(s.C u).1) (λu=>(s.C u).2) h;obtain ⟨a,n,g,m,x,t,k,p,r,q,C⟩:=s;obtain ⟨ha,hy,hm,ht,hE,hX⟩:=H
 replace ha:a=1:=ha
 replace hm:m=n:=hm
 replace e1:k=ofNat (kkN n (shG n g)):=e1
 replace e2:q=kkN n (shG n g):=e2
 replace ht:t=ofNat (ttN n (shG n g)):=ht
 replace e3:∀ k,k<q->(C k).1=lnN (mbF (shG n g)) (wrF (shG n g)) n k:=e3
 replace hX:∀ i,i<n->x i=evF n (shG n g) (λ_=>true) i:=hX
 replace hE:∀ i,i<n->g i=shG n g i:=hE
 replace hy:IsCycle a n g:=hy
 subst ha;subst hm;subst e1;subst e2;subst ht;have hhi:=hy.hi;have hG:=Dl hy;have htt:ttN m (shG m g) <= m:=Bm _ _;have hkk:kkN m (shG m g) <= m:=Bm _ _;have hev:∀ i,i<m->x i=⟨thF m (shG m g) i,ofNat (plF m (shG m g) i),(shG m g i).src,loF m (shG m g) i,ofNat (Ni (mbF (shG m g)) (wrF (shG m g)) m i)⟩:=λi hi=>(hX i hi).trans (CH hi);have hth:∀ i,i<m->(x i).th=ofNat (AZ (obF (shG m g)) m i):=λi hi=>by
  rw [hev i hi];exact Ey hi
 have hpl:∀ i,i<m->AZ (obF (shG m g)) m i<ttN m (shG m g)∧AZ (obF (shG m g)) m i <= i:=λi hi=>part_lt (by have:=hG.outer; exact Nat.lt_of_lt_of_le (by decide) this) hi
 let s:Sh7:=⟨1,m,g,m,x,ofNat (ttN m (shG m g)),ofNat (kkN m (shG m g)),p,r,kkN m (shG m g),C⟩
 obtain ⟨_,w2,w3⟩:=Aay (feF g m) x m hhi;have hw:wrB s=true:=by
  unfold wrB;refine (Bp (Nat.ble_eq_true_of_le hhi)).trans<|(Bp (Nat.ble_eq_true_of_le (show toN (ofNat (ttN m (shG m g))) <= 16 from Nat.le_trans htt hhi))).trans<|(Bp (Br _)).trans<|(Bp (A0.2 λb hb=>?_)).trans (A0.2 λb hb=>?_)
  ·show Ao (ile 0 (x b).th) (ilt (x b).th (ofNat (ttN m (shG m g))))=true
   rw [hth b hb];exact Ag (hpl b hb).1
  ·exact decide_eq_true (Nat.mod_lt _ (by have:b<m:=hb; omega))
 have hA:∀ p,p ∈ axS s->V2 p:=WF (SK (λi hi hr=>?_) m (Nat.le_refl _)) (λi hi=>?_) _ (Nat.le_refl _)
 rotate_left
 ·have hi:i<m:=hi
  have hd:ieq (x i).dir 2=false:=by
   have:=BX (show ieq (x i).dir 1=true from hr);rw [this];rfl
  have hy:=w3 i hi hd;obtain ⟨p1,p2⟩:=hpl i hi;refine ⟨?_,?_⟩
  ·show tgB (x i).th ((wsF (feF g m) x m).y i) []=true
   rw [hth i hi];unfold tgB;rw [show ieq (ofNat (AZ (obF (shG m g)) m i)) (-1)=false from rfl];simp only [cond_false,Bool.and_eq_true];refine ⟨decide_eq_true (by simp only [Int.ofNat_eq_natCast]; omega),decide_eq_true (by simp only [Int.ofNat_eq_natCast]; omega),decide_eq_true hy.1,decide_eq_true hy.2,rfl⟩
  ·show FT (x i).val=true
   rw [hev i hi];have:=Aa7 (mbF (shG m g)) (wrF (shG m g)) m i;unfold FT;rw [show ile (-2147483648) (ofNat (Ni (mbF (shG m g)) (wrF (shG m g)) m i))=true from decide_eq_true (by simp only [Int.ofNat_eq_natCast]; omega)];exact decide_eq_true (by simp only [Int.ofNat_eq_natCast]; omega)
 ·have h1:=(EE (P:=λk=>ieq (ofNat (C k).1) 2) (show i<An _ (kkN m (shG m g)) from hi)).1
  have h2:=ln_le (mbF (shG m g)) (wrF (shG m g)) m (Ir (kkN m (shG m g)) (λk=>(C k).1) i);refine ⟨Nat.lt_of_lt_of_le h1 (Nat.le_trans hkk hhi),?_⟩;show (C (Ir (kkN m (shG m g)) (λk=>(C k).1) i)).1 <= 1000;rw [e3 _ (show Ir (kkN m (shG m g)) (λk=>(C k).1) i<_ from h1)];exact Nat.le_trans h2 (by omega)
 obtain ⟨a1,a2⟩:=YV hA;have hlen:(axS s).length <= 1023:=by
  have h1:=Mq x (wsS s).y m;have h2:(axS s).length=_:=KI (evL x (wsS s).y m) (λk=>(C k).1) (Ir (kkN m (shG m g)) λk=>(C k).1) (Gm (kkN m (shG m g)) λk=>(C k).1);have h3:Gm (kkN m (shG m g)) (λk=>(C k).1) <= kkN m (shG m g):=Bm _ _;omega
 refine ⟨?_,?_,hw,λu=>Nat.lt_of_le_of_lt (w2 u) (by omega),hlen,Nat.le_trans htt hhi,Nat.le_trans hkk hhi⟩
 ·unfold Rq QX
  simp only [Bool.and_eq_true];exact ⟨Br _,Nat.ble_eq_true_of_le (show kkN m (shG m g) <= 1023 by omega),hw,hy.may,decide_eq_true (show m * 40 <= _ by omega),decide_eq_true (show kkN m (shG m g) * 8 <= _ by omega),hs,hck,Nat.ble_eq_true_of_le (show m <= 1023 by omega),Nat.ble_eq_true_of_le (Nat.le_refl m),Nat.ble_eq_true_of_le (show kkN m (shG m g) <= 1023 by omega),Nat.ble_eq_true_of_le hlen,a1,a2⟩
 ·unfold VI Mw
  simp only [Bool.and_eq_true];exact ⟨hy.may,Br _,Nat.ble_eq_true_of_le (show kkN m (shG m g) <= 1023 by omega),Nat.ble_eq_true_of_le (show m <= 1023 by omega),Nat.ble_eq_true_of_le (Nat.le_refl m),Nat.ble_eq_true_of_le (show kkN m (shG m g) <= 1023 by omega),Nat.ble_eq_true_of_le hlen,a1,a2⟩
end Go.Proofs.YtkgdhhieomndeaaGreatDoor.Em
namespace Go.Proofs.YtkgdhhieomndeaaGreatDoor.Em
open Go.Sy Go Go.Proofs.YtkgdhhieomndeaaGreatDoor.Ed Go.Proofs.YtkgdhhieomndeaaGreatDoor.Sh
set_option maxRecDepth 100000
set_option maxHeartbeats 1000000
def cyS (s:Sh7):List UInt8:=Dn s.ne λi=>AY s.ne s.E i
def k1S (s:Sh7):Int:=PD (axS s).length
def k2S (s:Sh7):Int:=(DJ (axS s).length (gT (axS s))).th
def k3S (s:Sh7):Int:=(DJ (axS s).length (gT (axS s))).rg
def k4S (s:Sh7):List UInt8:=(DJ (axS s).length (gT (axS s))).lc
def k5S (s:Sh7):Int:=PE (axS s).length (gW (axS s))
def knS (s:Sh7):Nat:=IZ (axS s).length
def kXS (s:Sh7):Nat->Tg:=gT (axS s)
def kfS (s:Sh7):Nat->Int:=gW (axS s)
def U9 (i:Nat):In5:=⟨-1,0,BB (Int.ofNat i),[],0⟩
def teS (s:Sh7) (nm:List UInt8):Te:=⟨s.arch,nm,cyS s,toN s.kk,U9,toN s.tt,(wsS s).lw,(wsS s).cw,1,⟨k1S s,k2S s,k3S s,k4S s,k5S s,knS s,kXS s,kfS s⟩⟩
theorem eM (n:Nat) (f:Nat->Nat):(A4 n λi=>A4 (f i) λ_=>true)=true:=A0.2 λ_ _=>Rc
theorem Agx (n:Nat):IZ n <= n:=by
 unfold IZ;cases Nat.ble n 1 <;> simp
section
variable {s:Sh7} (hf:AcQ s=true)
include hf
theorem Akn:BG s=true:=by
 obtain ⟨f1,f2,f3,f4,f5⟩:=AnH hf;unfold BG;exact (Bp (IY f1 (by omega))).trans<|(Bp (IY f2 (by omega))).trans<|(Bp (IY f3 (by omega))).trans<|(Bp (IY f4 (by omega))).trans (A0.2 λi hi=>IY (A0.1 f5 i hi) (by omega))
variable (hr:ieq (rtS s) 0=true)
include hr
theorem o7:Rq s=true∧VI s=true∧wrB s=true∧(∀ u,(wsS s).lw u<40)∧(axS s).length <= 1023∧toN s.tt <= 16∧toN s.kk <= 16:=ok7 hr (Akn hf)
end
end Go.Proofs.YtkgdhhieomndeaaGreatDoor.Em
namespace Go.Proofs.YtkgdhhieomndeaaGreatDoor.Em
open Go.Sy Go Go.Proofs.YtkgdhhieomndeaaGreatDoor.Ed Go.Proofs.YtkgdhhieomndeaaGreatDoor.Sh
open Int (ofNat)
set_option maxRecDepth 100000
set_option maxHeartbeats 1000000
def itN {σ:Type} (u:Nat->σ->σ):Nat->σ->σ
 | 0,a=>a
 | m+1,a=>u m (itN u m a)
theorem KU {σ ρ:Type} {g:Nat->σ->T (σ ⊕ ρ)} {fin:σ->ρ} {u:Nat->σ->σ} {n:Nat} (h:∀ i a,(g i a).sem=some (.inl (u i a))) (a:σ):∀ d i,i+d=n->BR g fin d i (itN u i a)=some (fin (itN u n a))
 | 0,i,e=>by rw [<- e]; rfl
 | d+1,i,e=>by
  rw [BR,h];exact KU h a d (i+1) (by omega)
def upA {α:Type} (g:Nat->α) (i:Nat) (x:α):Nat->α:=λk=>bif Nat.beq k i then x else g k
theorem VT {α:Type} (c:α->V) (g:Nat->α) (i:Nat) (x:α):BH (λk=>c (g k)) i (c x)=λk=>c (upA g i x k):=by
 funext k;rw [Ej];unfold upA;cases Nat.beq k i <;> rfl
theorem AiC {α:Type} (c:α->V) (g:Nat->Nat->α) (u i:Nat) (x:α):Cm (λu j=>c (g u j)) u (BH (λj=>c (g u j)) i (c x))=λv j=>c (upA g u (upA (g u) i x) v j):=by
 funext v j;unfold Cm;rw [Fy,VT];unfold upA;show (bif Nat.beq v u then _ else _)=_;cases Nat.beq v u <;> rfl
structure Kd where
 k:Int
 t:Int
 r:Int
 l:List UInt8
 v:Int
def kdV (x:Kd):V:=.agg [iV x.k,iV x.t,iV x.r,.str x.l,iV x.v,.nilS]
def i77 (k:Int):In4:=⟨77,0,k,[]⟩
def i55:In5:=⟨-7,0,[],[],0⟩
def k77:Kd:=⟨77,0,0,[],0⟩
theorem tn:Nk [110]=true:=by rfl
def lwS (s:Sh7):Nat->Nat:=(wsS s).lw
def cwS (s:Sh7):Nat->Nat->In4:=(wsS s).cw
def mt4:List (Nat×(List V->List Blk->AE)):=[(13,Yb 3 1 W5)]
noncomputable def VD:AK:=[(6,AaK),(7,AaL),(8,sameTT),(10,AaB (bV true)),(11,AcH),(12,Qt)]
theorem Aez:Aq Tryz.prog Gl VD:=.cons p6t <| .cons p7t <| .cons ApA <| .cons p43 <| .cons Ap5 <| .cons p45 .nil
theorem AjR:Kq Tryz.prog Gl mt4:=.cons m56 .nil
abbrev sC (n:Nat) (f:Nat->E6):Sh7:=ofS 1 n f
def te4 (n:Nat) (f:Nat->E6) (a b c:Nat):Blk:=.cells [iV 1,.str [110],.str (cyS (sC n f)),.ref a,.jref b,iV 1,iV (k1S (sC n f)),iV (k2S (sC n f)),iV (k3S (sC n f)),.str (k4S (sC n f)),iV (k5S (sC n f)),.ref c]
def rw4 (n:Nat) (f:Nat->E6) (v:Nat->V) (w:Nat->Nat->V) (k:Nat->V):List Blk:=[.row 55 5 (kkN n (shG n f)) v,.jag ⟨49,1,ttN n (shG n f),λ_=>.und,0,51,8,λ_=>true,lwS (sC n f),w⟩,.row 35 6 (knS (sC n f)) k]
def kd4 (n:Nat) (f:Nat->E6) (i:Nat):Kd:=⟨2,(kXS (sC n f) i).th,(kXS (sC n f) i).rg,(kXS (sC n f) i).lc,kfS (sC n f) i⟩
def H9 (n:Nat) (f:Nat->E6):List Blk:=Oh n (shG n f)++(.cells [iV 1,.ref 0,.ref 1,iV (ofNat (ttN n (shG n f))),iV (ofNat (kkN n (shG n f))),.ref 2,.jref 3]::(rw4 n f (λi=>Ht (U9 i)) (λu j=>inV (cwS (sC n f) u j)) (λi=>kdV (kd4 n f i))++[te4 n f 5 6 7]))
def H13 (n:Nat) (f:Nat->E6) (v:Nat->V) (w:Nat->Nat->V) (k:Nat->V):List Blk:=H9 n f++(rw4 n f v w k++[te4 n f 9 10 11])
def s4 (kk:Int) (d:List (Nat×V)):List V:=jsV 109 0 Aa ((3,.ptr 4 0)::(5,.ptr 8 0)::(7,iV kk)::(8,.ptr 12 0)::d)
def S4 (n:Nat) (f:Nat->E6) (c:Int) (_:Unit):St:=⟨jsV 109 0 Aa [(3,.ptr 4 0),(5,.ptr 8 0),(7,iV c)],H9 n f⟩
def Aol (n:Nat) (f:Nat->E6) (kk:Int) (u:Nat) (c:Int) (w:Nat->Nat->V):St:=⟨s4 kk [(10,nV u),(11,iV c)],H13 n f (λi=>Ht (U9 i)) w (λi=>kdV (kd4 n f i))⟩
def AkF (n:Nat) (f:Nat->E6) (kk:Int) (u:Nat) (c:Int) (w:Nat->Nat->In4):St:=Aol n f kk u c λu j=>inV (w u j)
def AkG (n:Nat) (f:Nat->E6) (kk c:Int) (w:Nat->Nat->In4):St:=⟨s4 kk [(10,iV c)],H13 n f (λi=>Ht (U9 i)) (λu j=>inV (w u j)) (λi=>kdV (kd4 n f i))⟩
def Aok (n:Nat) (f:Nat->E6) (kk c:Int) (w:Nat->Nat->In4) (v:Nat->V):St:=⟨s4 kk [(12,iV c)],H13 n f v (λu j=>inV (w u j)) (λi=>kdV (kd4 n f i))⟩
def AkE (n:Nat) (f:Nat->E6) (kk c:Int) (a:(Nat->Nat->In4)×(Nat->In5)):St:=Aok n f kk c a.1 λi=>Ht (a.2 i)
def Aoj (n:Nat) (f:Nat->E6) (kk c:Int) (w:Nat->Nat->In4) (v:Nat->In5) (y:Nat->V):St:=⟨s4 kk [(13,iV c)],H13 n f (λi=>Ht (v i)) (λu j=>inV (w u j)) y⟩
def AkD (n:Nat) (f:Nat->E6) (kk c:Int) (a:(Nat->Nat->In4)×(Nat->In5)×(Nat->Kd)):St:=Aoj n f kk c a.1 a.2.1 λi=>kdV (a.2.2 i)
def lp4:Lp:=⟨bmK 109 0 [3,5,7],9,bmK 109 0 [],0,4611686018427387905⟩
def Aht:Lp:=⟨bmK 109 0 [3,5,7,8,10],13,bmK 109 0 [3,5,7,8],13,4611686018427387905⟩
def Ahs:Lp:=⟨bmK 109 0 [3,5,7,8,10,11],13,bmK 109 0 [3,5,7,8,10],13,4611686018427387905⟩
def Ahr:Lp:=⟨bmK 109 0 [3,5,7,8,12],13,bmK 109 0 [3,5,7,8],13,4611686018427387905⟩
def Ahq:Lp:=⟨bmK 109 0 [3,5,7,8,13],13,bmK 109 0 [3,5,7],9,4611686018427387905⟩
def ls4:List (Nat×Lp×List (Nat×(Nat->V))):=[(0,lp4,[]),(2,Aht,[]),(4,Ahs,[]),(6,Ahr,[]),(8,Ahq,[])]
noncomputable def B4 (L:LT):St->T (Ex×St):=λst=>AD tab ⟨Ng mt4 VD,L,Gl⟩ (Au Tryz.f4 0) 0 st
noncomputable def Aqv (L:LT):St->T (Ex×St):=λst=>AD tab ⟨Ng mt4 VD,L,Gl⟩ (Au Tryz.f4 2) 2 st
noncomputable def Aqu (L:LT):St->T (Ex×St):=λst=>AD tab ⟨Ng mt4 VD,L,Gl⟩ (Au Tryz.f4 4) 4 st
noncomputable def Aqt (L:LT):St->T (Ex×St):=λst=>AD tab ⟨Ng mt4 VD,L,Gl⟩ (Au Tryz.f4 6) 6 st
noncomputable def Aqs (L:LT):St->T (Ex×St):=λst=>AD tab ⟨Ng mt4 VD,L,Gl⟩ (Au Tryz.f4 8) 8 st
def Al5 (kk:Int) (u i:Nat) (a:Nat->Nat->In4):Nat->Nat->In4:=upA a u (upA (a u) i (i77 kk))
def up4 (kk:Int) (m u:Nat) (a:Nat->Nat->In4):Nat->Nat->In4:=itN (Al5 kk u) m a
def An4 (_:Nat) (_:Nat->E6) (kk:Int) (u i:Nat) (a:Nat->Nat->In4):T ((Nat->Nat->In4) ⊕ (Ex×St)):=.leaf (.inl (upA a u (upA (a u) i (i77 kk))))
def Yz (n:Nat) (f:Nat->E6) (kk:Int) (u:Nat) (a:Nat->Nat->In4):Ex×St:=(.ex 4,⟨s4 kk [(10,nV u)],H13 n f (λi=>Ht (U9 i)) (λu j=>inV (a u j)) (λi=>kdV (kd4 n f i))⟩)
def An5 (n:Nat) (f:Nat->E6) (kk:Int) (i:Nat) (a:Nat->Nat->In4):T ((Nat->Nat->In4) ⊕ (Ex×St)):=.leaf (.inl (up4 kk (lwS (sC n f) i) i a))
def Y0 (n:Nat) (f:Nat->E6) (kk:Int) (a:Nat->Nat->In4):Ex×St:=(.ex 2,⟨s4 kk [],H13 n f (λi=>Ht (U9 i)) (λu j=>inV (a u j)) (λi=>kdV (kd4 n f i))⟩)
def An3 (_:Nat) (_:Nat->E6) (_:Int) (i:Nat) (a:(Nat->Nat->In4)×(Nat->In5)):T (((Nat->Nat->In4)×(Nat->In5)) ⊕ (Ex×St)):=.leaf (.inl (a.1,upA a.2 i i55))
def Yy (n:Nat) (f:Nat->E6) (kk:Int) (a:(Nat->Nat->In4)×(Nat->In5)):Ex×St:=(.ex 6,⟨s4 kk [],H13 n f (λi=>Ht (a.2 i)) (λu j=>inV (a.1 u j)) (λi=>kdV (kd4 n f i))⟩)
def An2 (_:Nat) (_:Nat->E6) (_:Int) (i:Nat) (a:(Nat->Nat->In4)×(Nat->In5)×(Nat->Kd)):T (((Nat->Nat->In4)×(Nat->In5)×(Nat->Kd)) ⊕ (Ex×St)):=.leaf (.inl (a.1,a.2.1,upA a.2.2 i k77))
def Yx (n:Nat) (f:Nat->E6) (kk:Int) (_:(Nat->Nat->In4)×(Nat->In5)×(Nat->Kd)):Ex×St:=(.ex 8,S4 n f kk ())
def g4 (_:Nat) (_:Nat->E6) (_:Nat) (_:Unit):T (Unit ⊕ (Ex×St)):=.leaf (.inl ())
def fn4 (_:Nat) (_:Nat->E6) (_:Unit):Ex×St:=(.ex 0,⟨jsV 109 0 Aa [],[]⟩)
theorem An8 (n:Nat) (f:Nat->E6) (kk:Int) (u:Nat) (a:Nat->Nat->In4) {m:Nat}:BR (An4 n f kk u) (Yz n f kk u) m 0 a=some (Yz n f kk u (up4 kk m u a)):=KU (u:=Al5 kk u) (λ_ _=>rfl) a m 0 (Nat.zero_add m)
theorem An9 (n:Nat) (f:Nat->E6) (kk:Int) (a:Nat->Nat->In4) {m:Nat}:BR (An5 n f kk) (Y0 n f kk) m 0 a=some (Y0 n f kk (itN (λi a=>up4 kk (lwS (sC n f) i) i a) m a)):=KU (λ_ _=>rfl) a m 0 (Nat.zero_add m)
theorem An7 (n:Nat) (f:Nat->E6) (kk:Int) (w:Nat->Nat->In4) (v:Nat->In5) {m:Nat}:BR (An3 n f kk) (Yy n f kk) m 0 (w,v)=some (Yy n f kk (itN (λi a=>(a.1,upA a.2 i i55)) m (w,v))):=KU (u:=λi a=>(a.1,upA a.2 i i55)) (λ_ _=>rfl) (w,v) m 0 (Nat.zero_add m)
theorem An6 (n:Nat) (f:Nat->E6) (kk:Int) (w:Nat->Nat->In4) (v:Nat->In5) (y:Nat->Kd) {m:Nat}:BR (An2 n f kk) (Yx n f kk) m 0 (w,v,y)=some (Yx n f kk (itN (λi a=>(a.1,a.2.1,upA a.2.2 i k77)) m (w,v,y))):=KU (u:=λi a=>(a.1,a.2.1,upA a.2.2 i k77)) (λ_ _=>rfl) (w,v,y) m 0 (Nat.zero_add m)
def W4 (n:Nat) (f:Nat->E6) (i:Nat):Nat->Nat->In4:=itN (λq a=>up4 (ofNat i) (lwS (sC n f) q) q a) (ttN n (shG n f)) (cwS (sC n f))
def X4 (n:Nat) (f:Nat->E6) (i:Nat):(Nat->Nat->In4)×(Nat->In5):=itN (λq a=>(a.1,upA a.2 q i55)) (kkN n (shG n f)) (W4 n f i,U9)
theorem fo4 (n:Nat) (f:Nat->E6):BR (g4 n f) (fn4 n f) 3 0 ()=some (fn4 n f ()):=rfl
theorem fc4 {n:Nat} {f:Nat->E6} (hy:IsCycle 1 n f):BC n=true∧BG (sC n f)=true∧ieq (rtS (sC n f)) 0=true∧Rq (sC n f)=true∧wrB (sC n f)=true∧VI (sC n f)=true∧Ael (teS (sC n f) [110])=true∧(∀ u,lwS (sC n f) u <= 4611686018427387904) ∧
  ttN n (shG n f) <= 4611686018427387904∧kkN n (shG n f) <= 4611686018427387904∧knS (sC n f) <= 4611686018427387904∧n <= 4611686018427387904:=by
 have hhi:=hy.hi;have hr:ieq (rtS (sC n f)) 0=true:=by rw [Ab7 hy]; rfl
 have hs:=(ok6 hy).2.1;obtain ⟨o1,o2,o3,o4,o5,o7,o6⟩:=ok7 hr hs;have h1:=Agx (axS (sC n f)).length;have o7:ttN n (shG n f) <= 16:=o7;have o6:kkN n (shG n f) <= 16:=o6;refine ⟨decide_eq_true (by omega),hs,hr,o1,o3,o2,?_,λu=>?_,by omega,by omega,Nat.le_trans (show knS (sC n f) <= _ from h1) (by omega),by omega⟩
 ·simp only [Ael,Bool.and_eq_true]
  exact ⟨small_16 o7,A0.2 λu _=>decide_eq_true (o4 u),small_16 o6,decide_eq_true (by show (0+IZ (axS (sC n f)).length) * 72 <= _; omega)⟩
 ·have:=o4 u
  show (wsS (sC n f)).lw u <= _;omega
theorem Apa (L:LT) (n:Nat) (f:Nat->E6) (kk:Int) (u:Nat) (hu:u<(ttN n (shG n f))) (hn:(lwS (sC n f) u) <= 4611686018427387904) {e:Ex×St} {a:(Nat->Nat->In4)} (h:BR (An4 n f kk u) (Yz n f kk u) (lwS (sC n f) u) 0 a=some e):(A3 (Aqu L) Ahs 4611686018427387905 (AkF n f kk u 0 a)).sem=some (exR e) :=
 Bq BZ hn (S:=λc a _=>AkF n f kk u c a) (j:=λ_=>.und) (λi a j r hi h=>DK.ok (L:=goR (λc a _=>AkF n f kk u c a) exR i) (.k (Ag hu) <| .k (decide_eq_true hu) <| .k eT <| .k eT <| .k (ofNat_lt hi) <| .k (Ag hu) <| .k (decide_eq_true hu) <| .r 2 eT <| .k (Ag hi) <| .k eT <| .k (decide_eq_true hi) <| .e (congrArg (λz=>(Ex.nm,Aol n f kk u (wr .i64 (Ak (ofNat i) 1)) z)) (AiC inV a u i (i77 kk)))) (by kernel_rfl) h) (λa j=>DK.ok (C:=.leaf (Yz n f kk u a)) (L:=exR) (.k (Ag hu) <| .k (decide_eq_true hu) <| .k eT <| .k eT <| .k (Aw (Nat.le_refl (lwS (sC n f) u))) .l) (by kernel_rfl) rfl) (Nat.zero_add _).symm (Nat.lt_succ_of_le hn) h
theorem Apb  (n:Nat) (f:Nat->E6) (kk:Int)  (hn:ttN n (shG n f) <= 4611686018427387904) (hW:∀ u,lwS (sC n f) u <= 4611686018427387904) {e:Ex×St} {a:(Nat->Nat->In4)} (h:BR (An5 n f kk) (Y0 n f kk) (ttN n (shG n f)) 0 a=some e):(A3 (Aqv (Go.Sy.askL ls4)) Aht 4611686018427387905 (AkG n f kk 0 a)).sem=some (exR e) :=
 Bq BZ hn (S:=λc a _=>AkG n f kk c a) (j:=λ_=>.und) (λi a j r hi h=>DK.ok (L:=goR (λc a _=>AkG n f kk c a) exR i) (.k (ofNat_lt hi) <| .a (Apa (Go.Sy.askL ls4) n f kk i hi (hW i) (An8 n f kk i a)) <| .l) (by kernel_rfl) h) (λa j=>DK.ok (C:=.leaf (Y0 n f kk a)) (L:=exR) (.k (Aw (Nat.le_refl (ttN n (shG n f)))) .l) (by kernel_rfl) rfl) (Nat.zero_add _).symm (Nat.lt_succ_of_le hn) h
theorem AoZ (L:LT) (n:Nat) (f:Nat->E6) (kk:Int)  (hn:(kkN n (shG n f)) <= 4611686018427387904) {e:Ex×St} {a:(Nat->Nat->In4)×(Nat->In5)} (h:BR (An3 n f kk) (Yy n f kk) (kkN n (shG n f)) 0 a=some e):(A3 (Aqt L) Ahr 4611686018427387905 (AkE n f kk 0 a)).sem=some (exR e) :=
 Bq BZ hn (S:=λc a _=>AkE n f kk c a) (j:=λ_=>.und) (λi a j r hi h=>DK.ok (L:=goR (λc a _=>AkE n f kk c a) exR i) (.k (ofNat_lt hi) <| .k (Ag hi) <| .k (decide_eq_true hi) <| .e (congrArg (λz=>(Ex.nm,Aok n f kk (wr .i64 (Ak (ofNat i) 1)) a.1 z)) (VT Ht a.2 i i55))) (by kernel_rfl) h) (λa j=>DK.ok (C:=.leaf (Yy n f kk a)) (L:=exR) (.k (Aw (Nat.le_refl (kkN n (shG n f)))) .l) (by kernel_rfl) rfl) (Nat.zero_add _).symm (Nat.lt_succ_of_le hn) h
theorem AoY (L:LT) (n:Nat) (f:Nat->E6) (kk:Int)  (hn:(knS (sC n f)) <= 4611686018427387904) {e:Ex×St} {a:(Nat->Nat->In4)×(Nat->In5)×(Nat->Kd)} (h:BR (An2 n f kk) (Yx n f kk) (knS (sC n f)) 0 a=some e):(A3 (Aqs L) Ahq 4611686018427387905 (AkD n f kk 0 a)).sem=some (exR e) :=
 Bq BZ hn (S:=λc a _=>AkD n f kk c a) (j:=λ_=>.und) (λi a j r hi h=>DK.ok (L:=goR (λc a _=>AkD n f kk c a) exR i) (.k (ofNat_lt hi) <| .k (Ag hi) <| .k (decide_eq_true hi) <| .e (congrArg (λz=>(Ex.nm,Aoj n f kk (wr .i64 (Ak (ofNat i) 1)) a.1 a.2.1 z)) (VT kdV a.2.2 i k77))) (by kernel_rfl) h) (λa j=>DK.ok (C:=.leaf (Yx n f kk a)) (L:=exR) (.k (Aw (Nat.le_refl (knS (sC n f)))) .l) (by kernel_rfl) rfl) (Nat.zero_add _).symm (Nat.lt_succ_of_le hn) h
theorem r4  (n:Nat) (f:Nat->E6)  (hy:IsCycle 1 n f) (hn:3 <= 4611686018427387904) {e:Ex×St} {a:Unit} (h:BR (g4 n f) (fn4 n f) 3 0 a=some e):(A3 (B4 (Go.Sy.askL ls4)) lp4 4611686018427387905 (S4 n f 0 a)).sem=some (exR e):= by
 obtain ⟨hF,hS,hR,h6,hw,h7,hte,hw4,l4T,l4K,l4N,hn16⟩:=fc4 hy;exact Bq BZ hn (S:=λc a _=>S4 n f c a) (j:=λ_=>.und) (λi a j r hi h=>DK.ok (L:=goR (λc a _=>S4 n f c a) exR i) (.k (ofNat_lt hi) <| .k (eG [kkN n (shG n f),ttN n (shG n f)]) <| .r 3 (eL n) <| .k (eL2 (kkN n (shG n f)) (sC n f).C) <| .k hF <| .k hS <| .k hR <| .k tn <| .k h6 <| .k (eR [(kkN n (shG n f),none),(ttN n (shG n f),some (wsS (sC n f)).lw),(knS (sC n f),none)]) <| .r 3 (eN (eI 0)) <| .k (eG [kkN n (shG n f),ttN n (shG n f),ttN n (shG n f)]) <| .k (eL (kkN n (shG n f))) <| .k (eM (ttN n (shG n f)) (wsS (sC n f)).lw) <| .k (eL (knS (sC n f))) <| .k (eL (kkN n (shG n f))) <| .k (eM (ttN n (shG n f)) (wsS (sC n f)).lw) <| .k (eL (knS (sC n f))) <| .k (Qn (teS (sC n f) [110])) <| .k hte <| .r 2 (eN (eI 0)) <| .k (eN eT) <| .a (Apb n f (ofNat i) l4T hw4 (An9 n f (ofNat i) (cwS (sC n f)))) <| .a (AoZ (Go.Sy.askL ls4) n f (ofNat i) l4K (An7 n f (ofNat i) (W4 n f i) U9)) <| .a (AoY (Go.Sy.askL ls4) n f (ofNat i) l4N (An6 n f (ofNat i) (X4 n f i).1 (X4 n f i).2 (kd4 n f))) <| .k (eG [kkN n (shG n f),ttN n (shG n f)]) <| .r 3 (eL n) <| .k (eL2 (kkN n (shG n f)) (sC n f).C) <| .k hF <| .k hS <| .k hR <| .k hw <| .k (eR [(n,none)]) <| .k (decide_eq_true hn16) <| .k (eL n) <| .l) (by kernel_rfl) h) (λa j=>DK.ok (C:=.leaf (fn4 n f a)) (L:=exR) (.k (Aw (Nat.le_refl 3)) .l) (by kernel_rfl) rfl) (Nat.zero_add _).symm (Nat.lt_succ_of_le hn) h
def C4 (n:Nat) (f:Nat->E6):AE:=.br (BC n) (.br (ieq (BK 1 n f) 0) (.leaf (bV true,[])) (.leaf (bV true,[]))) .fail
def lawO:List V->AE
 | [v]=>apL v λn _=>.br (BC n) (.leaf (bV true,[])) .fail
 | _=>.fail
theorem lawO_sem {n:Nat} (f:Nat->E6) (hn:n * 40 <= 140737488351232):∃ h',(lawO [.sl 6 n λi=>eV (f i)]).sem=some (bV true,h'):=by
 have h1:(A4 n λi=>okE (eV (f i)))=true:=A0.2 λ_ _=>rfl;have h2:BC n=true:=decide_eq_true (by omega);refine ⟨[],?_⟩;show (T.br (A4 n λi=>okE (eV (f i))) (.br (BC n) (.leaf (bV true,[])) .fail) .fail).sem=_;rw [h1,h2];rfl
theorem p4x:Ax Tryz.prog Gl 4 lawO:=by
 refine Aj A7 mixed Tryz.func4 (by kernel_rfl) (by kernel_rfl) λvs v h' h=>?_;unfold lawO at h;split at h
 ·obtain ⟨n,f,ha,h1⟩:=Co h
  obtain ⟨hF,hq⟩:=Ad h1;have:=Ab hq;simp only [Prod.mk.injEq] at this;obtain ⟨rfl,rfl⟩:=this;have hC:(C4 n f).sem=some (bV true,[]):=by
   unfold C4;rw [hF];cases ieq (BK 1 n f) 0 <;> rfl
  exact ⟨_,⟨Ng mt4 VD,Go.Sy.askL ls4,Gl⟩,_,AkB ha,rfl,AdE rfl AjR Aez,J6 _ _ _,DK.of hC (.k (eL n) <| .g λh1=>.k h1 <| .c (λh2=>.k h2 <| .k (eN eT) <| .k (eG [kkN n (shG n f)]) <| .k (eL n) <| .k (eL n) <| .k (eL n) <| .k (eL2 (kkN n (shG n f)) (sC n f).C) <| .k h1 <| .k (fc4 (Bl h2)).2.1 <| .k (fc4 (Bl h2)).2.2.1 <| .k (fc4 (Bl h2)).2.2.2.2.1 <| .k tn <| .k (fc4 (Bl h2)).2.2.2.2.2.1 <| .k (eR [(kkN n (shG n f),none),(ttN n (shG n f),some (wsS (sC n f)).lw),(knS (sC n f),none)]) <| .a (r4 n f (Bl h2) (by decide) (fo4 n f)) <| .l) λh2=>.k h2 <| .k (eN eF) <| .l) (by kernel_rfl),Av.refl _⟩
 ·cases h
end Go.Proofs.YtkgdhhieomndeaaGreatDoor.Em
namespace Go.Proofs.YtkgdhhieomndeaaGreatDoor.Ed
open Go.Sy
set_option maxRecDepth 100000
theorem own:ownKnob Tryz.prog.godebug=none:=by kernel_rfl
theorem AfU:laidOutB Tryz.prog=true:=by kernel_rfl
def SY (e:E6):List Value:=[.int .i64 e.kind,.bool e.ext,.bool e.same,.int .i64 e.src,.int .i64 e.dst,.int .i64 e.fence]
section
variable {H:Type} {enc:TypeId×Value->H} {W:World} {sp:Nat->Bool} {held:Bool} {r:Reach} {b0:Nat} {v:Value} {d:DataW H} {ps:List MemPlace}
theorem Hl {c d:Value} {cs:List Value} (h:cs=[d]) (hc:[c]=cs):c=d:=by
 subst h;simpa using hc
theorem Xm (fuel:Nat) (cs:List Value) (x:DataW H×List MemPlace) (h:DataW.trod enc Tryz.prog W 0 sp held fuel 92 cs=some x):∃ e:E6,cs=SY e:=by
 obtain ⟨xs,n,_,_,hl,hx,hf⟩:=DataW.trod_struct Tryz.underlying92 h;have hl:cs.length=6:=hl.trans (by kernel_rfl);have hx:xs.length=6:=hx;obtain ⟨c0,c1,c2,c3,c4,c5,rfl⟩:∃ a b c d e f,cs=[a,b,c,d,e,f]:=by
  match cs,hl with
  | [a,b,c,d,e,f],_=>exact ⟨a,b,c,d,e,f,rfl⟩
 have get:∀ (i:Nat) (f:Field),#[({ name := "Kind",type:=3,offset:=0,embedded:=false,tag := "",pkgPath := "",byteOffset:=0 }:Field),
    { name := "Ext",type:=4,offset:=1,embedded:=false,tag := "",pkgPath := "",byteOffset:=8 },
    { name := "Same",type:=4,offset:=2,embedded:=false,tag := "",pkgPath := "",byteOffset:=9 },
    { name := "Src",type:=3,offset:=3,embedded:=false,tag := "",pkgPath := "",byteOffset:=16 },
    { name := "Dst",type:=3,offset:=4,embedded:=false,tag := "",pkgPath := "",byteOffset:=24 },
    { name := "Fence",type:=3,offset:=5,embedded:=false,tag := "",pkgPath := "",byteOffset:=32 }][i]? = some f->i<6 ->
   ∃ y,DataW.trod enc Tryz.prog W 0 sp held n f.type (([c0,c1,c2,c3,c4,c5].drop f.offset).take (Tryz.prog.cellsOf f.type))=some y:=by
  intro i f hi hlt;have:=hf i f hi;rw [List.getElem?_eq_getElem (by omega)] at this;exact ⟨_,this⟩
 have n3:Tryz.prog.cellsOf 3=1:=by kernel_rfl
 have n4:Tryz.prog.cellsOf 4=1:=by kernel_rfl
 obtain ⟨y0,g0⟩:=get 0 _ rfl (by omega);obtain ⟨y1,g1⟩:=get 1 _ rfl (by omega);obtain ⟨y2,g2⟩:=get 2 _ rfl (by omega);obtain ⟨y3,g3⟩:=get 3 _ rfl (by omega);obtain ⟨y4,g4⟩:=get 4 _ rfl (by omega);obtain ⟨y5,g5⟩:=get 5 _ rfl (by omega);have g0:DataW.trod enc Tryz.prog W 0 sp held n 3 (([c0,c1,c2,c3,c4,c5].drop 0).take (Tryz.prog.cellsOf 3))=some y0:=g0;rw [n3] at g0;have g1:DataW.trod enc Tryz.prog W 0 sp held n 4 (([c0,c1,c2,c3,c4,c5].drop 1).take (Tryz.prog.cellsOf 4))=some y1:=g1;rw [n4] at g1;have g2:DataW.trod enc Tryz.prog W 0 sp held n 4 (([c0,c1,c2,c3,c4,c5].drop 2).take (Tryz.prog.cellsOf 4))=some y2:=g2;rw [n4] at g2;have g3:DataW.trod enc Tryz.prog W 0 sp held n 3 (([c0,c1,c2,c3,c4,c5].drop 3).take (Tryz.prog.cellsOf 3))=some y3:=g3;rw [n3] at g3;have g4:DataW.trod enc Tryz.prog W 0 sp held n 3 (([c0,c1,c2,c3,c4,c5].drop 4).take (Tryz.prog.cellsOf 3))=some y4:=g4;rw [n3] at g4;have g5:DataW.trod enc Tryz.prog W 0 sp held n 3 (([c0,c1,c2,c3,c4,c5].drop 5).take (Tryz.prog.cellsOf 3))=some y5:=g5;rw [n3] at g5;obtain ⟨a0,e0,_⟩:=DataW.trod_int Tryz.underlying3 g0;obtain ⟨a1,e1,_⟩:=DataW.trod_bool Tryz.underlying4 g1;obtain ⟨a2,e2,_⟩:=DataW.trod_bool Tryz.underlying4 g2;obtain ⟨a3,e3,_⟩:=DataW.trod_int Tryz.underlying3 g3;obtain ⟨a4,e4,_⟩:=DataW.trod_int Tryz.underlying3 g4;obtain ⟨a5,e5,_⟩:=DataW.trod_int Tryz.underlying3 g5;have e0:c0 = .int .i64 a0:=Hl e0 rfl;have e1:c1 = .bool a1:=Hl e1 rfl;have e2:c2 = .bool a2:=Hl e2 rfl;have e3:c3 = .int .i64 a3:=Hl e3 rfl;have e4:c4 = .int .i64 a4:=Hl e4 rfl;have e5:c5 = .int .i64 a5:=Hl e5 rfl;exact ⟨⟨a0,a1,a2,a3,a4,a5⟩,by rw [e0,e1,e2,e3,e4,e5]; rfl⟩
theorem Ag0 (S:Nat->Prop) (w:World) (κ:A2) (e:E6):VR S w (eV e) κ (.agg (SY e).toArray) :=
 ⟨_,rfl,_,_,rfl,rfl,_,_,rfl,rfl,_,_,rfl,rfl,_,_,rfl,rfl,_,_,rfl,rfl,_,_,rfl,rfl,rfl⟩
def Aon (W:World) (v:Value) (u:V):Prop:=VR (PZ W) W u noK v
instance:Inhabited E6:=⟨ES⟩
theorem TY (hval:Value.okWide Tryz.prog W r b0 22 v) (h:DataW.Trod enc Tryz.prog W 0 sp held 22 v d ps) :
  ∃ (n:Nat) (xs:Nat->E6),Aon W v (.sl 6 n λi=>eV (xs i))∧(n=0 ∨ ∃ els rest,d = .slice els rest∧els.length=n) :=
 Wn (f:=SY) (g:=eV) (s:=6) Tryz.underlying22 (by kernel_rfl) (by omega) (λe u hu=>by simp [SY] at hu; rcases hu with rfl | rfl | rfl | rfl | rfl | rfl <;> rfl)
  (λS w e=>⟨_,Ag0 S w noK e,rfl⟩) Xm hval h
end
noncomputable def Mi (os:Os):World :=
 { World.holding Tryz.prog os ⟨#[],#[],[]⟩ with heap:=(World.holding Tryz.prog os ⟨#[],#[],[]⟩).heap.mapIdx λi o=>match o with
   | .cells cs t frozen=>.cells (match i with
    | 0=>(SO.map λz=>Value.string ⟨z.toArray⟩).toArray
    | 1=>(YL.map λz=>Value.string ⟨z.toArray⟩).toArray
    | 2=>(XE.map λz=>Value.string ⟨z.toArray⟩).toArray
    | 3=>(YB.map λz=>Value.string ⟨z.toArray⟩).toArray
    | _=>cs) t frozen
   | o=>o }
end Go.Proofs.YtkgdhhieomndeaaGreatDoor.Ed
namespace Go.Proofs.YtkgdhhieomndeaaGreatDoor.Ed
open Go.Sy
set_option maxRecDepth 100000
theorem Aqa {W:World} (hL:laidMetH Tryz.prog Rows.emitxTestsRow.laid W):Tm Gl (PZ W) W:=by
 have hL:laidMet Tryz.prog [("alembic/edge.comms",.agg (SO.map λz=>.lit (.string z))),("alembic/edge.ends",.agg (YB.map λz=>.lit (.string z))),("alembic/edge.sets",.agg (XE.map λz=>.lit (.string z))),("alembic/edge.deps",.agg (YL.map λz=>.lit (.string z)))] W:=hL;obtain ⟨ps,hv,_,_⟩:=hL;obtain ⟨h0,q0,hv⟩:=Kw (g:=0) (t:=146) (e:=9) (n:=6) (by kernel_rfl) (by kernel_rfl) (by kernel_rfl) (by kernel_rfl) (by kernel_rfl) (by kernel_rfl) hv;obtain ⟨h3,q3,hv⟩:=Kw (g:=3) (t:=149) (e:=9) (n:=4) (by kernel_rfl) (by kernel_rfl) (by kernel_rfl) (by kernel_rfl) (by kernel_rfl) (by kernel_rfl) hv;obtain ⟨h2,q2,hv⟩:=Kw (g:=2) (t:=148) (e:=9) (n:=9) (by kernel_rfl) (by kernel_rfl) (by kernel_rfl) (by kernel_rfl) (by kernel_rfl) (by kernel_rfl) hv;obtain ⟨h1,q1,hv⟩:=Kw (g:=1) (t:=147) (e:=9) (n:=10) (by kernel_rfl) (by kernel_rfl) (by kernel_rfl) (by kernel_rfl) (by kernel_rfl) (by kernel_rfl) hv;intro g
 match g with
 | 0=>exact h0
 | 1=>exact h1
 | 2=>exact h2
 | 3=>exact h3
 | n+4=>trivial
end Go.Proofs.YtkgdhhieomndeaaGreatDoor.Ed
