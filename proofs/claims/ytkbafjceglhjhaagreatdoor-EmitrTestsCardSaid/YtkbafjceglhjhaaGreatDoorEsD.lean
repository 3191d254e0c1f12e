/-
  Layer 12: the document's code of an event. Conditions: the shape passes.
-/
import Derived.Test.YtkbafjceglhjhaaGreatDoorEsA
import Derived.Test.YtkbafjceglhjhaaGreatDoorErW
namespace Go.Proofs.YtkbafjceglhjhaaGreatDoor.Er
open Go.Sy Go Go.Proofs.YtkbafjceglhjhaaGreatDoor.Ed Go.Proofs.YtkbafjceglhjhaaGreatDoor.Sh
open Int (ofNat)
set_option maxRecDepth 100000
set_option maxHeartbeats 1000000
section
variable (s:Sh7) (i:Nat)
def fcD:In8:=⟨13,0,0,0,0,[],[],(pe6 s (ofNat i)).fence⟩
def bnD:In8:=⟨11,0,pr6 s (ofNat i),0,0,[],lbC (ofNat (lbN s i)),0⟩
def lbD:In8:=⟨12,0,0,0,0,[],lbC (ofNat (lbN s i)),0⟩
def AaY:In8:=⟨9,6,pr6 s (ofNat i),pr6 s (ofNat i),0,[],[],0⟩
def Z4:In8:=⟨9,5,pr6 s (ofNat i),pr6 s (ofNat i),0,[],[],0⟩
def lwD (a:Int):In8:=⟨6,rg9 s i,a,0,0,[],[],0⟩
def tlD (a:Int):List In8:=bif ieq (s.X i).dir 1 then [lwD s i a] else bif ieq (pe6 s (ofNat i)).kind 7 then [Z4 s i,or5 s i,swI a] else [or0 s i,swI a]
def ET:List In8 :=
 bif ieq (pe6 s (ofNat i)).kind 5 then fcD s i::tlD s i (at9 s i)
 else bif ieq (pe6 s (ofNat i)).kind 8 then bnD s i::lbD s i::tlD s i (at9 s i)
 else bif ieq (pe6 s (ofNat i)).kind 6 then AaY s i::ad6 s i::tlD s i 6
 else tlD s i (at9 s i)
theorem Ny (xs:List In8) (xss:List (List In8)) (h:∀ x,x ∈ xss->0<x.length∧x.length <= 16) (e:xss.flatten=xs):(V.ref 0,[Blk.row 72 8 (gF (BI [],EY []) xss).1 (gF (BI [],EY []) xss).2])=(V.ref 0,[Blk.row 72 8 (BI xs) (EY xs)]):=by
 rw [AdO xss [] h,List.nil_append,e]
end
theorem eBq (b:Bool):JR b b=true:=by cases b <;> rfl
def AaA (e:E6):Bool:=!AB e || !ieq e.kind 5
theorem Aa9:(List.range 112).all (λk=>AaA (Du k))=true:=by kernel_rfl
theorem AhH {e:E6} (h:Be e=0):AaA e=true:=by
 rcases Dk e with ⟨k,hk,_,_,he,_⟩ | ⟨h2,_⟩
 ·rw [<- he]
  exact List.all_eq_true.1 Aa9 k (by simpa using hk)
 ·rw [h2] at h
  cases h
theorem Ahu:(List.range 32).all (λk=>seq (lbC (ofNat k)) (Xg k))=true:=by kernel_rfl
theorem Amm {k:Nat} (h:k<32):lbC (ofNat k)=Xg k:=by
 have:=List.all_eq_true.1 Ahu k (by simpa using h);unfold seq at this;simpa using this
section
variable {s:Sh7} (hg:Gs s) {i:Nat} (hi:i<s.nx)
include hg hi
theorem Aja:Al (ile 0 (ofNat (lbN s i))) (ilt (ofNat (lbN s i)) 100)=true:=by
 have h1:=Re s i;have h2:=hg.hi;exact Ad (show lbN s i<100 by omega)
theorem AiF (h:ieq (s.X i).dir 1=true):rg9 s i=rI9 s i:=by
 have _:=hg;have hh:hsF s s.nx (toN (s.X i).th) (ofNat i)=true:=by
  rw [G6];unfold hsX isT;rw [show toN (ofNat i)=i from rfl,Nat.beq_refl,show isR s i=true from h,ofNat_lt hi,show ile 0 (ofNat i)=true from decide_eq_true (Int.natCast_nonneg _)];rfl
 unfold rg9;rw [hh];rfl
theorem AnN {K:E6} (hK:pe6 s (ofNat i)=K) (h7:ieq K.kind 7=true->rP9 s i=pr6 s (ofNat i)) (hE:ed9 s i=K ∨ ieq K.kind 7=false) (hE':ieq (ed9 s i).kind 7=ieq K.kind 7) (a:Int):(tl9 s i a).flatten=tlD s i a:=by
 unfold tl9 tlD;rw [hE',hK];have _:=hE;cases hd:ieq (s.X i).dir 1 with
 | true =>unfold lwI lwD;rw [AiF hg hi hd];rfl
 | false =>
  cases h:ieq K.kind 7 with
  | false=>rfl
  | true =>unfold xr5 Z4;rw [h7 h];rfl
theorem Agb (hx:∀ i,i<s.nx->AaA (s.E i)=true):(Ds s i).flatten=ET s i:=by
 have hok:=hg.ok _ (Yp hg (i:=i));unfold Aek at hok;simp only [Bool.and_eq_true] at hok;obtain ⟨_,hk,_⟩:=hok;have hP:=Acs hg hi;by_cases h0:0<i∧obE s (i-1)=false
 ·obtain ⟨h0,hob⟩:=h0
  have hpl:=Apg hg h0 hob hi;have hpv:=Ov h0 hi;have hed:=Ajt hg h0 hi;have hr:∀ {k:Bool},(ieq (s.E (pvN s i)).kind 6 || (ieq (s.E (pvN s i)).kind 7 || ieq (s.E (pvN s i)).kind 8))=k->k=true->rP9 s i=pr6 s (ofNat i):=λh h'=>by
   subst h';rw [h] at hk;simp only [Bool.not_true,bFO,Bool.and_eq_true,Bool.not_eq_true'] at hk;have hs:=BP hk.1;rw [hpv] at hs;exact (Aof hg h0 hob hi hs).1
  have t:=AnN hg hi (K:=ed9 s i) hed.symm (λh=>hr (k:=true) (by rw [<- hP,<- hed,h]; simp) rfl) (.inl rfl) rfl;unfold Ds ET;rw [hpl,<- hed];cases k5:ieq (ed9 s i).kind 5 with
  | true =>simp only [cond_true,List.flatten_cons,t];unfold fcI fcD;rw [hed];rfl
  | false =>
   cases k8:ieq (ed9 s i).kind 8 with
   | true =>
    have hl:lbC (ofNat (lbN s i))=Xg (lbN s i):=Amm (by have:=Re s i; have:=hg.hi; omega);have hR:=hr (k:=true) (by rw [<- hP,<- hed,k8]; simp) rfl;simp only [cond_true,cond_false];unfold bnD lbD;rw [hl];unfold Xg;cases ieq (ofNat (Bq (Df (ofNat (lbN s i))))) 1 with
    | true =>simp only [cond_true,List.flatten_cons,t];unfold bnI;rw [hR];rfl
    | false =>simp only [cond_false,List.flatten_cons,t];unfold bnI;rw [hR];rfl
   | false =>
    cases k6:ieq (ed9 s i).kind 6 with
    | true =>have hR:=hr (k:=true) (by rw [<- hP,<- hed,k6]; rfl) rfl;simp only [cond_true,cond_false,List.flatten_cons,t];unfold xr6 AaY;rw [hR];rfl
    | false=>simp only [cond_true,cond_false,t]
 ·have hpl:ilt 0 (s.X i).pl=false:=AlH hg (by
   by_cases h1:i=0
   ·exact .inl h1
   ·refine .inr ?_
    cases hob:obE s (i-1) with
    | true=>rfl
    | false=>exact absurd ⟨by omega,hob⟩ h0) hi
  have hob:obE s (pvN s i)=true:=by
   by_cases h1:i=0
   ·subst h1
    have:=hg.lo;have e:pvN s 0=s.nx-1:=by
     unfold pvN;rw [show 0+s.nx-1=s.nx-1 by omega,Nat.mod_eq_of_lt (by omega)]
    rw [e];exact hg.last
   ·rw [Ov (by omega) hi]
    cases hob:obE s (i-1) with
    | true=>rfl
    | false=>exact absurd ⟨by omega,hob⟩ h0
  have h5:=hx _ (Yp hg (i:=i));unfold AaA at h5;rw [show AB (s.E (pvN s i))=true from hob,Bool.not_true,bFO,Bool.not_eq_true',<- hP] at h5;rw [show AB (s.E (pvN s i))=true from hob,Bool.not_true,Bool.and_false,Bool.or_false,Bool.not_eq_true',Bool.or_eq_false_iff,Bool.or_eq_false_iff,<- hP] at hk;unfold Ds ET tlD;rw [hpl,h5,hk.1,hk.2.1,hk.2.2];cases hd:ieq (s.X i).dir 1 with
  | true =>unfold lwI lwD;rw [AiF hg hi hd];rfl
  | false=>rfl
end
def P65 (s:Sh7) (n:Nat) (f:Nat->Int) (z y:Int):Prop:=(Gs s∧∀ i,i<s.nx->AaA (s.E i)=true)∧(AV s.nc (λi=>AV (s.C i).1 (λ_=>true))=true)∧n=s.nx∧(∀ k,k<s.nx->f k=rg9 s k)∧∃ j,j<s.nx∧z=ofNat j∧y=ofNat (lbN s j)
noncomputable def evT:List V->A5
 | [v,rv,.val (.int .i64 z),.val (.int .i64 y)]=>apS v λs=>apI rv λn f=>.br (pB (P65 s n f z y)) (.leaf (.ref 0,[.row 72 8 (BI (Ds s (toN z)).flatten) (EY (Ds s (toN z)).flatten)])) .fail
 | _=>.fail
noncomputable def tb65:A7:=(103,shI AmP)::(104,lbT)::[]
theorem tb65_ok:Ao Tryz.prog Gl tb65:=.cons Apn <| .cons Apm .nil
theorem AeK {S:Nat->Prop} {w:World} {κ:Ax} {n:Nat} {f g:Nat->Int} {c:Value} (h:∀ k,k<n->f k=g k) (hv:VR S w (.sl 1 n λk=>iV (f k)) κ c):VR S w (.sl 1 n λk=>iV (g k)) κ c:=by
 obtain ⟨a,cap,e,hc,hv⟩:=hv;refine ⟨a,cap,e,hc,hv.imp id ?_⟩
 rintro ⟨b,o,ea,hv⟩
 refine ⟨b,o,ea,λi hi=>?_⟩;obtain ⟨ci,q1,q2⟩:=hv i hi;exact ⟨ci,(show VR S w (iV (g i)) (λ_=>none) ci from h i hi ▸ q1),q2⟩
theorem ArR:Ap Tryz.prog Gl 65 evT:=by
 refine Ah A2 mixed Tryz.func65 (by kernel_rfl) (by kernel_rfl) λvs v h' h=>?_;unfold evT at h;split at h
 ·rename_i u rv z y
  obtain ⟨s,a1,h⟩:=apS_some h;obtain ⟨n,f,a2,h⟩:=El h;obtain ⟨hp,h⟩:=Ac h;cases Ab h;obtain ⟨⟨hg,hex⟩,hC,rfl,hf,i,hi,rfl,rfl⟩:=GO hp;have hx:=AS tb65_ok [] (G:=Gl);rw [show toN (ofNat i)=i from rfl,Agb hg hi hex];refine ⟨[EC s,.sl 1 s.nx (λk=>iV (rg9 s k)),nV i,iV (ofNat (lbN s i))],cxA Gl tb65 [],_,λS w cs hq=>?_,rfl,hx.1,hx.2,DW.ok (.k (Ad hi) <| .k (Io hi) <| .k (AdL hg hi 0 0 0).hE <| .k (eI (ofNat i)) <| .k (eI (ofNat s.nx)) <| .k (eI (wr .i64 (Ai (ofNat i) (ofNat s.nx)))) <| .k (eI (wr .i64 (Bz (wr .i64 (Ai (ofNat i) (ofNat s.nx))) 1))) <| .k (eI (ofNat s.nx)) <| .k (Io hi) <| .k (eI (x3 s (ofNat i))) <| .k (eI (pe6 s (ofNat i)).kind) <| .k (eBq (pe6 s (ofNat i)).ext) <| .k (eBq (pe6 s (ofNat i)).same) <| .k (eI (pe6 s (ofNat i)).src) <| .k (eI (pe6 s (ofNat i)).dst) <| .k (eI (pe6 s (ofNat i)).fence) <| .k (eI (ofNat i)) <| .k (eI (ofNat s.nx)) <| .k (eI (wr .i64 (Ai (ofNat i) (ofNat s.nx)))) <| .k (eI (wr .i64 (Bz (wr .i64 (Ai (ofNat i) (ofNat s.nx))) 1))) <| .k (eI (ofNat s.nx)) <| .k (Io hi) <| .k (eI (x3 s (ofNat i))) <| .k (eI (pe6 s (ofNat i)).kind) <| .k (eBq (pe6 s (ofNat i)).ext) <| .k (eBq (pe6 s (ofNat i)).same) <| .k (eI (pe6 s (ofNat i)).src) <| .k (eI (pe6 s (ofNat i)).dst) <| .k (eI (pe6 s (ofNat i)).fence) <| .k (Io hi) <| .k (AdL hg hi 0 0 0).hX <| .k (eL s.ne) <| .k (eL s.nx) <| .k (eL s.nr) <| .k (eL2 s.nc s.C) <| .k (Cy hg) <| .k (Afv (Cy hg) hi) <| .c (ieq (pe6 s (ofNat i)).kind 5) (λh1=>.k h1 <| .k (show Bs 0 1 80=true from by decide) <| .c (ieq (s.X i).dir 1) (λh2=>.k h2 <| .k (Ad hi) <| .k (show Bs (AE 0 1) 1 80=true from by decide) <| .e (Ny (ET s i) [[fcD s i],[lwD s i (at9 s i)]] (by simp) (by unfold ET tlD; rw [h1,h2]; rfl))) λh2=>.k h2 <| .c (ieq (pe6 s (ofNat i)).kind 7) (λh3=>.k h3 <| .k (show Bs (AE 0 1) 1 80=true from by decide) <| .k (show Bs (AE (AE 0 1) 1) 1 80=true from by decide) <| .k (show Bs (AE (AE (AE 0 1) 1) 1) 1 80=true from by decide) <| .e (Ny (ET s i) [[fcD s i],[Z4 s i],[or5 s i],[swI (at9 s i)]] (by simp) (by unfold ET tlD; rw [h1,h2,h3]; rfl))) λh3=>.k h3 <| .k (show Bs (AE 0 1) 1 80=true from by decide) <| .k (show Bs (AE (AE 0 1) 1) 1 80=true from by decide) <| .e (Ny (ET s i) [[fcD s i],[or0 s i],[swI (at9 s i)]] (by simp) (by unfold ET tlD; rw [h1,h2,h3]; rfl))) λh1=>.k h1 <| .c (ieq (pe6 s (ofNat i)).kind 8) (λh4=>.k h4 <| .k (Aja hg hi) <| .k (show Bs 0 1 80=true from by decide) <| .k (Aja hg hi) <| .k (show Bs (AE 0 1) 1 80=true from by decide) <| .c (ieq (s.X i).dir 1) (λh5=>.k h5 <| .k (Ad hi) <| .k (show Bs (AE (AE 0 1) 1) 1 80=true from by decide) <| .e (Ny (ET s i) [[bnD s i],[lbD s i],[lwD s i (at9 s i)]] (by simp) (by unfold ET tlD; rw [h1,h4,h5]; rfl))) λh5=>.k h5 <| .c (ieq (pe6 s (ofNat i)).kind 7) (λh6=>.k h6 <| .k (show Bs (AE (AE 0 1) 1) 1 80=true from by decide) <| .k (show Bs (AE (AE (AE 0 1) 1) 1) 1 80=true from by decide) <| .k (show Bs (AE (AE (AE (AE 0 1) 1) 1) 1) 1 80=true from by decide) <| .e (Ny (ET s i) [[bnD s i],[lbD s i],[Z4 s i],[or5 s i],[swI (at9 s i)]] (by simp) (by unfold ET tlD; rw [h1,h4,h5,h6]; rfl))) λh6=>.k h6 <| .k (show Bs (AE (AE 0 1) 1) 1 80=true from by decide) <| .k (show Bs (AE (AE (AE 0 1) 1) 1) 1 80=true from by decide) <| .e (Ny (ET s i) [[bnD s i],[lbD s i],[or0 s i],[swI (at9 s i)]] (by simp) (by unfold ET tlD; rw [h1,h4,h5,h6]; rfl))) λh4=>.k h4 <| .c (ieq (pe6 s (ofNat i)).kind 6) (λh7=>.k h7 <| .k (show Bs 0 1 80=true from by decide) <| .k (show Bs (AE 0 1) 1 80=true from by decide) <| .c (ieq (s.X i).dir 1) (λh8=>.k h8 <| .k (Ad hi) <| .k (show Bs (AE (AE 0 1) 1) 1 80=true from by decide) <| .e (Ny (ET s i) [[AaY s i],[ad6 s i],[lwD s i 6]] (by simp) (by unfold ET tlD; rw [h1,h4,h7,h8]; rfl))) λh8=>.k h8 <| .c (ieq (pe6 s (ofNat i)).kind 7) (λh9=>.k h9 <| .k (show Bs (AE (AE 0 1) 1) 1 80=true from by decide) <| .k (show Bs (AE (AE (AE 0 1) 1) 1) 1 80=true from by decide) <| .k (show Bs (AE (AE (AE (AE 0 1) 1) 1) 1) 1 80=true from by decide) <| .e (Ny (ET s i) [[AaY s i],[ad6 s i],[Z4 s i],[or5 s i],[swI 6]] (by simp) (by unfold ET tlD; rw [h1,h4,h7,h8,h9]; rfl))) λh9=>.k h9 <| .k (show Bs (AE (AE 0 1) 1) 1 80=true from by decide) <| .k (show Bs (AE (AE (AE 0 1) 1) 1) 1 80=true from by decide) <| .e (Ny (ET s i) [[AaY s i],[ad6 s i],[or0 s i],[swI 6]] (by simp) (by unfold ET tlD; rw [h1,h4,h7,h8,h9]; rfl))) λh7=>.k h7 <| .c (ieq (s.X i).dir 1) (λh10=>.k h10 <| .k (Ad hi) <| .k (show Bs 0 1 80=true from by decide) <| .e (Ny (ET s i) [[lwD s i (at9 s i)]] (by simp) (by unfold ET tlD; rw [h1,h4,h7,h10]; rfl))) λh10=>.k h10 <| .c (ieq (pe6 s (ofNat i)).kind 7) (λh11=>.k h11 <| .k (show Bs 0 1 80=true from by decide) <| .k (show Bs (AE 0 1) 1 80=true from by decide) <| .k (show Bs (AE (AE 0 1) 1) 1 80=true from by decide) <| .e (Ny (ET s i) [[Z4 s i],[or5 s i],[swI (at9 s i)]] (by simp) (by unfold ET tlD; rw [h1,h4,h7,h10,h11]; rfl))) λh11=>.k h11 <| .k (show Bs 0 1 80=true from by decide) <| .k (show Bs (AE 0 1) 1 80=true from by decide) <| .e (Ny (ET s i) [[or0 s i],[swI (at9 s i)]] (by simp) (by unfold ET tlD; rw [h1,h4,h7,h10,h11]; rfl))) (by kernel_rfl),Am.refl _⟩
  obtain ⟨c,l,rfl,q1,c2,l2,rfl,q2,q3⟩:=hq;exact ⟨c,_,rfl,a1 S w c q1,c2,_,rfl,AeK hf (a2 S w c2 q2),q3⟩
 ·cases h
end Go.Proofs.YtkbafjceglhjhaaGreatDoor.Er
namespace Go.Proofs.YtkbafjceglhjhaaGreatDoor.Er
open Go.Sy Go Go.Proofs.YtkbafjceglhjhaaGreatDoor.Ed Go.Proofs.YtkbafjceglhjhaaGreatDoor.Sh
open Int (ofNat)
set_option maxRecDepth 100000
set_option maxHeartbeats 1000000
def Gz (s:Sh7):Prop:=Gs s∧∀ i,i<s.nx->AaA (s.E i)=true
theorem Aqp {s:Sh7} (h:ieq (CQ s) 0=true):Gz s:=by
 have hg:=good h;refine ⟨hg,?_⟩;have hc:BU s=true:=by
  cases hc:BU s with
  | true=>rfl
  | false =>unfold CQ at h;rw [hc] at h;cases h
 unfold BU at hc;obtain ⟨h1,hc⟩:=A9 hc;unfold IF at hc;obtain ⟨_,hc⟩:=A9 hc;obtain ⟨_,hc⟩:=A9 hc;obtain ⟨_,hc⟩:=A9 hc;obtain ⟨hE,_⟩:=A9 hc;have hG:=DN (Bt h1);intro i hi;have hne:=hg.ne;rw [(HB.1 hE).2 i (by omega)];exact AhH (D9.1 hG.may i (by omega))
theorem rbU (l:List In8):Cj [.row 72 8 (BI l) (EY l)]=true:=by
 simp only [Cj,Bool.and_true,List.all_eq_true,List.mem_range];intro k hk;rw [<- Yx l k hk];rfl
theorem Ams (l xs:List In8):Bn (BI l) (BI xs) (EY l) (EY xs)=EY (l++xs):=by
 funext k;unfold EY;rw [List.map_append,S7,List.length_map];cases xs with
 | nil =>show PS l.length (λk=>nth (l.map i8V) k) (λk=>nth ([].map i8V) k) k=_;rw [Gk]
 | cons x t =>
 cases t with
 | nil =>
  show AD l.length (λk=>nth (l.map i8V) k) (i8V x) k=_;rw [Br];show (bif Nat.beq k l.length then i8V x else nth (l.map i8V) k)=bif Nat.blt k l.length then nth (l.map i8V) k else nth [i8V x] (k-l.length);rw [OF];cases hk:Nat.beq k l.length with
  | true =>
   have:=Nat.eq_of_beq_eq_true hk;subst this;rw [show Nat.blt l.length l.length=false from by
    cases hb:Nat.blt l.length l.length with
    | false=>rfl
    | true=>have:=Nat.le_of_ble_eq_true hb; omega,Nat.sub_self]
   rfl
  | false =>
   have:=Nat.ne_of_beq_eq_false hk;cases hb:Nat.blt k l.length with
   | true=>rfl
   | false =>
    have hge:l.length <= k:=Nat.le_of_not_lt λhc=>by rw [show Nat.blt k l.length=true from Nat.ble_eq_true_of_le hc] at hb; cases hb
    have hz:Nat.beq (k-l.length) 0=false:=by
     cases hq:Nat.beq (k-l.length) 0 with
     | false=>rfl
     | true=>have:=Nat.eq_of_beq_eq_true hq; omega
    rw [hz];show nth (l.map i8V) k=V.und;have:∀ (l:List V) (k:Nat),l.length <= k->nth l k = .und:=λl=>by
     induction l with
     | nil=>intro k _; rfl
     | cons v l ih =>
      intro k hk;cases k with
      | zero=>simp at hk
      | succ k=>exact ih k (by simpa using hk)
    exact this _ _ (by simpa using hge)
 | cons y t =>show PS l.length (λk=>nth (l.map i8V) k) (λk=>nth ((x::y::t).map i8V) k) k=_;rw [Gk]
section
variable (s:Sh7)
def T37 (lab c:Int) (lv:Nat->Bool) (ln:Nat->Nat) (mm:Nat->Nat->V):St:=⟨jsV 61 0 Aa [(1,.ptr 0 0),(3,.jref 2),(4,.ref 3),(5,iV lab),(6,iV (ofNat s.nx)),(7,iV c)],[cl7 s,.jag ⟨63,1,0,λ_=>.und,0,72,8,λ_=>true,λ_=>0,λ_ _=>.und,none⟩,.jag ⟨63,1,toN s.tt,λ_=>.nilS,0,72,8,lv,ln,mm,none⟩,.row 3 1 s.nx (λk=>iV (rg9 s k))]⟩
def S37 (i:Nat):St:=T37 s (ofNat (lbN s i)) (ofNat i) (λ_=>true) (λu=>BI (cdL s i u)) (λu=>EY (cdL s i u))
def x37:Ex×St:=(.ex 0,⟨jsV 61 0 Aa [(3,.jref 2)],[cl7 s,.jag ⟨63,1,0,λ_=>.und,0,72,8,λ_=>true,λ_=>0,λ_ _=>.und,none⟩,AhK s]⟩)
noncomputable def AqJ:A5:=.br (pB (Gz s)) (.leaf (.jref 0,[codJ s])) .fail
end
def lp37:Lp:=⟨bmK 61 0 [1,3,4,5,6,7],4,bmK 61 0 [3],3,4611686018427387905⟩
noncomputable def AkB:A7:=(38,shT AkR)::(65,evT)::[]
theorem AfE:Ao Tryz.prog Gl AkB:=.cons Apj <| .cons ArR .nil
noncomputable def B37 (id:Nat) (L:LT):St->T (Ex×St):=λst=>AA tab ⟨Aw AkB,L,Gl⟩ (As Tryz.f37 id) id st
def Amc:List (Nat×Lp×List (Nat×(Nat->V))):=[(0,lp37,[(2,λ_=>.und)])]
section
variable {s:Sh7} (hy:Gz s) {i:Nat} (hi:i<s.nx)
include hy hi
theorem AlJ:P65 s s.nx (rg9 s) (ofNat i) (ofNat (lbN s i)):=⟨hy,eL2 s.nc s.C,rfl,λ_ _=>rfl,i,hi,rfl,rfl⟩
theorem AqP:Bs (BI (cdL s i (toN (s.X i).th))) (BI (Ds s i).flatten) 80=true:=decide_eq_true (by
 have h1:=ME s (toN (s.X i).th) i;have h2:=Yf s i;have h3:=hy.1.hi;unfold BI at *;omega)
theorem Y9:lbN s (i+1)=bif ieq (pe6 s (ofNat i)).kind 8 then lbN s i+1 else lbN s i:=by
 obtain ⟨hg,hx⟩:=hy;have hP:=Acs hg hi;have hok:=hg.ok _ (Yp hg (i:=i));unfold Aek at hok;simp only [Bool.and_eq_true] at hok;obtain ⟨_,hk,_⟩:=hok;by_cases h0:0<i∧obE s (i-1)=false
 ·obtain ⟨h0,hob⟩:=h0
  rw [lbN,Apg hg h0 hob hi,Ajt hg h0 hi];cases k5:ieq (pe6 s (ofNat i)).kind 5 with
  | true=>rw [Aa1 (BP k5)]; rfl
  | false=>rfl
 ·have hpl:ilt 0 (s.X i).pl=false:=AlH hg (by
   by_cases h1:i=0
   ·exact .inl h1
   ·refine .inr ?_
    cases hob:obE s (i-1) with
    | true=>rfl
    | false=>exact absurd ⟨by omega,hob⟩ h0) hi
  have hob:obE s (pvN s i)=true:=by
   by_cases h1:i=0
   ·subst h1
    have:=hg.lo;have e:pvN s 0=s.nx-1:=by
     unfold pvN;rw [show 0+s.nx-1=s.nx-1 by omega,Nat.mod_eq_of_lt (by omega)]
    rw [e];exact hg.last
   ·rw [Ov (by omega) hi]
    cases hob:obE s (i-1) with
    | true=>rfl
    | false=>exact absurd ⟨by omega,hob⟩ h0
  rw [show AB (s.E (pvN s i))=true from hob,Bool.not_true,Bool.and_false,Bool.or_false,Bool.not_eq_true',Bool.or_eq_false_iff,Bool.or_eq_false_iff,<- hP] at hk;rw [lbN,hpl,hk.2.2];rfl
theorem lb8 (h:ieq (pe6 s (ofNat i)).kind 8=true):wr .i64 (Ai (ofNat (lbN s i)) 1)=ofNat (lbN s (i+1)):=by
 have:=Re s i;have:=hy.1.hi;rw [Y9 hy hi,h];exact D6 (by omega)
theorem lb0 (h:ieq (pe6 s (ofNat i)).kind 8=false):ofNat (lbN s i)=ofNat (lbN s (i+1)):=by
 rw [Y9 hy hi,h];rfl
theorem ApX {lab:Int} (hl:lab=ofNat (lbN s (i+1))):(Ex.nm,T37 s lab (wr .i64 (Ai (ofNat i) 1)) (C2 (C2 (λ_=>true) (toN (s.X i).th) false) (toN (s.X i).th) true) (Dm (λu=>BI (cdL s i u)) (toN (s.X i).th) (AE (BI (cdL s i (toN (s.X i).th))) (BI (Ds s i).flatten)))
  (Dn (λu=>EY (cdL s i u)) (toN (s.X i).th) (Bn (BI (cdL s i (toN (s.X i).th))) (BI (Ds s i).flatten) (EY (cdL s i (toN (s.X i).th))) (EY (Ds s i).flatten))))=(Ex.nm,S37 s (i+1)):=by
 have e:cdL s (i+1)=upL (cdL s i) (toN (s.X i).th) (cdL s i (toN (s.X i).th)++(Ds s i).flatten):=by
  funext u;rw [cdL];unfold upL;cases hu:Nat.beq u (toN (s.X i).th) with
  | true=>rw [Nat.eq_of_beq_eq_true hu]
  | false=>rfl
 unfold S37;rw [hl,w16 hi (by have:=hy.1.hi; omega),e,Ol,Ams,show AE (BI (cdL s i (toN (s.X i).th))) (BI (Ds s i).flatten)=BI (cdL s i (toN (s.X i).th)++(Ds s i).flatten) from by unfold AE BI; simp,Ws BI,Wt EY]
omit hi
theorem r37:(Av (B37 0 (Go.Sy.askL Amc)) lp37 4611686018427387905 (S37 s 0)).sem=some (x37 s) :=
 Bv (S:=S37 s) (m:=s.nx) (show (Ex.ex 0) ≠ .nm from nofun) (λi hi=>DW.rd (.k (ofNat_lt hi) <| .k (eG [0,toN s.tt]) <| .k (eL s.ne) <| .k (eL s.nx) <| .k (eL s.nr) <| .k (eL2 s.nc s.C) <| .k (eL s.nx) <| .k (Ik (AlJ hy hi)) <| .k (rbU (Ds s i).flatten) <| .k (Io hi) <| .k (AdL hy.1 hi 0 0 0).hE <| .c (ieq (pe6 s (ofNat i)).kind 8) (λh1=>.k h1 <| .k (Ad hi) <| .k (C0 (Cy hy.1) hi) <| .k (BH (Cy hy.1) hi) <| .r 2 eT <| .k (AqP hy hi) <| .k (C0 (Cy hy.1) hi) <| .k (BH (Cy hy.1) hi) <| .e (ApX hy hi (lb8 hy hi h1))) λh1=>.k h1 <| .k (Ad hi) <| .k (C0 (Cy hy.1) hi) <| .k (BH (Cy hy.1) hi) <| .r 2 eT <| .k (AqP hy hi) <| .k (C0 (Cy hy.1) hi) <| .k (BH (Cy hy.1) hi) <| .e (ApX hy hi (lb0 hy hi h1))) (by kernel_rfl)) (DW.rd (.k (DY s.nx) .l) (by kernel_rfl)) (by have:=hy.1.hi; omega)
end
theorem ArX:Ap Tryz.prog Gl 37 (shT AqJ):=WL Tryz.func37 (by kernel_rfl) (by kernel_rfl) (Γ:=λ_=>cxA Gl AkB Amc) (λ_=>rfl) (λ_=>AS AfE Amc) λs v h' h=>by
 obtain ⟨hp,h⟩:=Ac h;cases Ab h;have hy:=GO hp;exact ⟨[AhK s],DW.ok (.k (Acr (Cy hy.1) 24 (by decide)) <| .k (eL s.ne) <| .k (eL s.nx) <| .k (eL s.nr) <| .k (eL2 s.nc s.C) <| .k (Cy hy.1) <| .a (r37 hy) <| .l) (by kernel_rfl),.consB (.jag (λ_ _=>.inl rfl) (λ_ _=>rfl) (λ_ _=>rfl) λk _ q hq=>Yx _ q hq) (Am.refl [])⟩
def Ac7:List V->A5
 | [.val (.int .i64 y)]=>.leaf (.str (Cb y),[])
 | _=>.fail
noncomputable def tb41:A7:=(66,SL)::[]
theorem tb41_ok:Ao Tryz.prog Gl tb41:=.cons Sh.p38 .nil
theorem AlK:Ap Tryz.prog Gl 41 Ac7:=by
 refine Ah A2 mixed Tryz.func41 (by kernel_rfl) (by kernel_rfl) λvs v h' h=>?_;unfold Ac7 at h;split at h
 ·cases Ab h
  have hx:=AS tb41_ok [] (G:=Gl);exact ⟨_,cxA Gl tb41 [],_,Ba.refl _,rfl,hx.1,hx.2,DW.ok .l (by kernel_rfl),Am.refl _⟩
 ·cases h
section
variable (s:Sh7) (u:Nat)
def T14_2 (c:Int) (n:Nat) (g:Nat->V):St:=⟨jsV 44 0 Aa [(1,.ptr 0 0),(4,.ref 2),(6,nV u),(7,.ref 3),(8,iV c)],[cl7 s,.row 68 5 0 Aa,.row 68 5 n g,.row 3 1 (Bm (locL s s.nx u)) (HI (locL s s.nx u))]⟩
def T14 (c:Int) (l:List Nt):St:=⟨jsV 44 0 Aa [(1,.ptr 0 0),(4,.ref 2),(6,iV c)],[cl7 s,.row 68 5 0 Aa,.row 68 5 (Dw l) (Hm l)]⟩
def Aip:Ex×St:=(.ex 2,T14 s (ofNat u) (inL s (u+1)))
def x14:Ex×St:=(.ex 0,⟨jsV 44 0 Aa [(4,.ref 2)],[cl7 s,.row 68 5 0 Aa,.row 68 5 (Dw (inL s (toN s.tt))) (Hm (inL s (toN s.tt)))]⟩)
end
def lp14_2:Lp:=⟨bmK 44 0 [1,4,6,7,8],4,bmK 44 0 [1,4,6],3,4611686018427387905⟩
def lp14:Lp:=⟨bmK 44 0 [1,4,6],3,bmK 44 0 [4],3,4611686018427387905⟩
noncomputable def Ab5:A7:=(36,shT Qi)::(40,shI AcC)::(41,Ac7)::[]
theorem Ab4:Ao Tryz.prog Gl Ab5:=.cons p36 <| .cons AlL <| .cons AlK .nil
noncomputable def B14 (id:Nat) (L:LT):St->T (Ex×St):=λst=>AA tab ⟨Aw Ab5,L,Gl⟩ (As Tryz.f14 id) id st
def ls14:List (Nat×Lp×List (Nat×(Nat->V))):=[(0,lp14,[(2,λ_=>ntV zT)]),(2,lp14_2,[])]
section
variable {s:Sh7} (hF:plB s=true) {u i:Nat}
include hF
theorem AnL (hu:u<toN s.tt):ilt (ofNat u) s.tt=true:=by
 rw [<- (Bw hF).2.2.1];exact ofNat_lt hu
theorem AnM:ilt (ofNat (toN s.tt)) s.tt=false:=by
 have:=(Bw hF).2.2.1;rw [this];exact decide_eq_false (by omega)
theorem AsA (hi:i<Bm (locL s s.nx u)):(Ex.nm,T14_2 s u (wr .i64 (Ai (ofNat i) 1)) (AE (Dw (ntL s u i)) 1) (AD (Dw (ntL s u i)) (Hm (ntL s u i)) (.agg [nV u,iV (wr .i64 (Ai 7 (ofNat i))),.str [],.str (Cb (Ec (locL s s.nx u) i)),iV 0])))=(Ex.nm,T14_2 s u (ofNat (i+1)) (Dw (ntL s u (i+1))) (Hm (ntL s u (i+1)))):=by
 have h16:=QM hF u;refine nm3 (w16 hi (by omega)) (by rw [OG]; unfold Dw AE; simp) ?_;rw [OG,show wr .i64 (Ai 7 (ofNat i))=ofNat (7+i) from He (k:=7+i) (by omega),<- QT];rfl
theorem r14_2 (hu:u<toN s.tt):(Av (B14 2 (Go.Sy.askL ls14)) lp14_2 4611686018427387905 (T14_2 s u 0 (Dw (inL s u)) (Hm (inL s u)))).sem=some (Aip s u):=by
 have h:=Bv (f:=B14 2 (Go.Sy.askL ls14)) (lp:=lp14_2) (S:=λi=>T14_2 s u (ofNat i) (Dw (ntL s u i)) (Hm (ntL s u i))) (m:=Bm (locL s s.nx u)) (x:=Aip s u) (show (Ex.ex 2) ≠ .nm from nofun) (λi hi=>DW.rd (.k (ofNat_lt hi) <| .k (Ad hi) <| .k (decide_eq_true hi) <| .k (AqQ hF hu hi) <| .e (AsA hF hi)) (by kernel_rfl))
  (DW.rd (.k (DY (Bm (locL s s.nx u))) .l) (by kernel_rfl)) (q:=4611686018427387905) (by have:=QM hF u; omega)
 rw [AiO] at h;exact h
theorem r14:(Av (B14 0 (Go.Sy.askL ls14)) lp14 4611686018427387905 (T14 s 0 [])).sem=some (x14 s) :=
 Bv (S:=λi=>T14 s (ofNat i) (inL s i)) (m:=toN s.tt) (show (Ex.ex 0) ≠ .nm from nofun) (λi hi=>DW.rd (.k (AnL hF hi) <| .k (eL s.ne) <| .k (eL s.nx) <| .k (eL s.nr) <| .k (eL2 s.nc s.C) <| .k hF <| .k (show ile 0 (ofNat i)=true from decide_eq_true (Int.natCast_nonneg i)) <| .a (r14_2 hF hi) <| .e (nm2 (f:=T14 s) (w16 hi (by have:=(Bw hF).2.1; omega)) rfl)) (by kernel_rfl))
  (DW.rd (.k (AnM hF) .l) (by kernel_rfl)) (by have:=(Bw hF).2.1; omega)
end
theorem Asp:Ap Tryz.prog Gl 14 (shT UZ):=KY Tryz.func14 (by kernel_rfl) (by kernel_rfl) (Γ:=λ_=>cxA Gl Ab5 ls14) (λ_=>rfl) (λ_=>AS Ab4 ls14) λs r h=>by
 obtain ⟨h1,h⟩:=Ac h;obtain ⟨h2,h⟩:=Ac h;cases h3:ieq (CQ s) 0 with
 | true =>rw [h3] at h;obtain ⟨hF,h⟩:=Ac h;cases Ab h;exact DW.ok (.k (eL s.ne) <| .k (eL s.nx) <| .k (eL s.nr) <| .k (eL2 s.nc s.C) <| .k h1 <| .k h2 <| .k (eN h3) <| .a (r14 hF) <| .l) (by kernel_rfl)
 | false =>rw [h3] at h;cases Ab h;exact DW.ok (.k (eL s.ne) <| .k (eL s.nx) <| .k (eL s.nr) <| .k (eL2 s.nc s.C) <| .k h1 <| .k h2 <| .k (eN h3) <| .l) (by kernel_rfl)
end Go.Proofs.YtkbafjceglhjhaaGreatDoor.Er
namespace Go.Proofs.YtkbafjceglhjhaaGreatDoor.Er
open Go.Sy Go Go.Proofs.YtkbafjceglhjhaaGreatDoor.Ed Go.Proofs.YtkbafjceglhjhaaGreatDoor.Sh
open Int (ofNat)
set_option maxRecDepth 100000
set_option maxHeartbeats 1000000
def okL {α:Type} (c:Cod α) (v:V):Bool:=match Qt c.size v with
 | some (n,g)=>AV n λi=>c.ok (g i)
 | none=>false
def edL {α:Type} (c:Cod α) (v:V):Nat×(Nat->α):=match Qt c.size v with
 | some (n,g)=>(n,λi=>c.ed (g i))
 | none=>(0,λ_=>c.ed .und)
def AaL {α:Type} (c:Cod α):Cod (Nat×(Nat->α)):=⟨1,λp=>Ei c p.1 p.2,okL c,edL c,λv h S w u hv=>by
 unfold okL at h;unfold edL;split at h
 ·rename_i n g hg
  have h:=A8.1 h;exact Lo hg (λi hi S w cc hc=>c.law _ (h i hi) S w cc hc) hv
 ·cases h⟩
structure Ini5 where
 th:Int
 rg:Int
 lc:List UInt8
 nm:List UInt8
 nn:Int
def i5V (e:Ini5):V:=.agg [iV e.th,iV e.rg,.str e.lc,.str e.nm,iV e.nn]
def Aft:V->Option Ini5
 | .agg [.val (.int .i64 a),.val (.int .i64 b),.str c,.str d,.val (.int .i64 e)]=>some ⟨a,b,c,d,e⟩
 | _=>none
theorem ZD {v:V} {e:Ini5} (h:Aft v=some e):v=i5V e:=by
 unfold Aft at h;split at h
 ·simp only [Option.some.injEq] at h
  subst h;rfl
 ·cases h
def AlR (v:V):Bool:=match Aft v with
 | some _=>true
 | none=>false
def Am5 (v:V):Ini5:=match Aft v with
 | some e=>e
 | none=>⟨0,0,[],[],0⟩
theorem Aae {v:V} (h:AlR v=true):v=i5V (Am5 v):=by
 unfold AlR at h;unfold Am5;split at h
 ·rename_i e he
  exact ZD he
 ·cases h
def AaM:Cod Ini5:=⟨5,i5V,AlR,Am5,λv h S w c hv=>by rw [<- Aae h]; exact hv⟩
theorem Y1 {α:Type} {c:Cod α} {n:Nat} {f g:Nat->α} (h:∀ i,i<n->∀ (S:Nat->Prop) (w:World) (u:Value),VR S w (c.enc (f i)) noK u->VR S w (c.enc (g i)) noK u) {S:Nat->Prop} {w:World} {u:Value} (hv:VR S w (Ei c n f) noK u):VR S w (Ei c n g) noK u :=
 Lo (s:=c.size) (v:=Ei c n f) (g:=λi=>c.enc (f i)) (by unfold Qt Ei; simp) h hv
theorem Mt {α:Type} {c:Cod α} {n:Nat} {f g:Nat->α} (h:∀ i,i<n->f i=g i) {S:Nat->Prop} {w:World} {u:Value} (hv:VR S w (Ei c n f) noK u):VR S w (Ei c n g) noK u:=Y1 (λi hi S w u hv=>by rw [<- h i hi]; exact hv) hv
theorem SE {α:Type} {c:Cod α} {n:Nat} {f g:Nat->Nat×(Nat->α)} (h:∀ i,i<n->(f i).1=(g i).1∧∀ k,k<(f i).1->(f i).2 k=(g i).2 k) {S:Nat->Prop} {w:World} {u:Value} (hv:VR S w (Ei (AaL c) n f) noK u):VR S w (Ei (AaL c) n g) noK u :=
 Y1 (c:=AaL c) (λi hi S w u hv=>by
  have h1:=Mt (c:=c) (h i hi).2 hv;show VR S w (Ei c (g i).1 (g i).2) noK u;rw [<- (h i hi).1];exact h1) hv
theorem eq8 (e:In8):Al (ieq e.op e.op) (Al (ieq e.d e.d) (Al (ieq e.a e.a) (Al (ieq e.b e.b) (Al (ieq e.imm e.imm) (Al (seq e.loc e.loc) (Al (seq e.lab e.lab) (Al (ieq e.fc e.fc) true)))))))=true:=by simp [Al,ieq,seq]
theorem eq5 (e:Ini5):Al (ieq e.th e.th) (Al (ieq e.rg e.rg) (Al (seq e.lc e.lc) (Al (Al (seq e.nm e.nm) (Al (ieq e.nn e.nn) true)) true)))=true:=by simp [Al,ieq,seq]
theorem ltI (x:Int):ilt x x=false:=by simp [ilt]
section
variable (n:Nat) (C:Nat->Nat×(Nat->In8))
def AeT (u:Nat) (c:Int):St:=⟨jsV 53 0 Aa [(0,.sl 1 n (λu=>.sl 8 (C u).1 (λk=>i8V ((C u).2 k)))),(1,.sl 1 n (λu=>.sl 8 (C u).1 (λk=>i8V ((C u).2 k)))),(5,nV u),(6,iV c)],[]⟩
def T15 (c:Int):St:=⟨jsV 53 0 Aa [(0,.sl 1 n (λu=>.sl 8 (C u).1 (λk=>i8V ((C u).2 k)))),(1,.sl 1 n (λu=>.sl 8 (C u).1 (λk=>i8V ((C u).2 k)))),(5,iV c)],[]⟩
end
def Ada:Lp:=⟨bmK 53 0 [0,1,5,6],0,bmK 53 0 [0,1,5],0,4611686018427387905⟩
def ApR:Lp:=⟨bmK 53 0 [0,1,5],0,bmK 53 0 [],0,4611686018427387905⟩
def AgN:List (Nat×Lp×List (Nat×(Nat->V))):=[(0,ApR,[]),(2,Ada,[])]
noncomputable def B15 (id:Nat) (L:LT):St->T (Ex×St):=λst=>AA tab ⟨Aw tb0,L,Gl⟩ (As Tryz.f15 id) id st
section
variable {n:Nat} {C:Nat->Nat×(Nat->In8)}
theorem AoY {u:Nat} (hu:u<n) (hn:(C u).1 <= 4611686018427387904):(Av (B15 2 (Go.Sy.askL AgN)) Ada 4611686018427387905 (AeT n C u 0)).sem=some (.ex 2,T15 n C (ofNat u)) :=
 Bv (S:=λi=>AeT n C u (ofNat i)) (m:=(C u).1) (show (Ex.ex 2) ≠ .nm from nofun) (λi hi=>DW.rd (.k (Ad hu) <| .k (ofNat_lt hi) <| .k (Ad hu) <| .k (Ad hi) <| .k (Ad hu) <| .k (Ad hi) <| .k (eN (eq8 ((C u).2 i))) <| .e (nm1 (f:=AeT n C u) (D6 (by omega)))) (by kernel_rfl)) (DW.rd (.k (Ad hu) <| .k (DY (C u).1) .l) (by kernel_rfl)) (by omega)
theorem r15 (hn:n <= 4611686018427387904) (hs:∀ i,i<n->(C i).1 <= 4611686018427387904):(Av (B15 0 (Go.Sy.askL AgN)) ApR 4611686018427387905 (T15 n C 0)).sem=some (.ex 0,⟨jsV 53 0 Aa [],[]⟩) :=
 Bv (S:=λi=>T15 n C (ofNat i)) (m:=n) (show (Ex.ex 0) ≠ .nm from nofun) (λi hi=>DW.rd (.k (ofNat_lt hi) <| .r 2 (Ad hi) <| .k (eN (eI (ofNat (C i).1))) <| .a (AoY hi (hs i hi)) <| .e (nm1 (f:=T15 n C) (D6 (by omega)))) (by kernel_rfl)) (DW.rd (.k (DY n) .l) (by kernel_rfl)) (by omega)
end
def P15 (n:Nat) (C:Nat->Nat×(Nat->In8)) (m:Nat) (D:Nat->Nat×(Nat->In8)):Prop:=n <= 4611686018427387904∧(∀ i,i<n->(C i).1 <= 4611686018427387904)∧m=n∧∀ i,i<n->(D i).1=(C i).1∧∀ k,k<(D i).1->(D i).2 k=(C i).2 k
noncomputable def W6:List V->A5
 | [u,v]=>apG (AaL Aey) u λn C=>apG (AaL Aey) v λm D=>.br (pB (P15 n C m D)) (.leaf (bV true,[])) .fail
 | _=>.fail
theorem Aso:Ap Tryz.prog Gl 15 W6:=by
 refine Ah A2 mixed Tryz.func15 (by kernel_rfl) (by kernel_rfl) λvs v h' h=>?_;unfold W6 at h;split at h
 ·rename_i u1 u2
  obtain ⟨n,C,a1,h⟩:=B0 h;obtain ⟨m,D,a2,h⟩:=B0 h;obtain ⟨hp,h⟩:=Ac h;cases Ab h;obtain ⟨hn,hs,rfl,hD⟩:=GO hp;have hx:=AS Ca AgN (G:=Gl);refine ⟨[.sl 1 m (λu=>.sl 8 (C u).1 (λk=>i8V ((C u).2 k))),.sl 1 m (λu=>.sl 8 (C u).1 (λk=>i8V ((C u).2 k)))],cxA Gl tb0 AgN,_,λS w cs hq=>?_,rfl,hx.1,hx.2,DW.ok (.k (eN (eI (ofNat m))) <| .a (r15 hn hs) <| .l) (by kernel_rfl),Am.refl _⟩
  obtain ⟨c,l,rfl,q1,c2,l2,rfl,q2,q3⟩:=hq;exact ⟨c,_,rfl,a1 S w c q1,c2,_,rfl,SE hD (a2 S w c2 q2),q3⟩
 ·cases h
section
variable (n:Nat) (f:Nat->Int) (t:Int)
def T42 (c:Int):St:=⟨jsV 46 0 Aa [(0,.sl 1 n (λk=>iV (f k))),(1,.sl 1 n (λk=>iV (f k))),(5,iV c)],[]⟩
end
def ApK:Lp:=⟨bmK 46 0 [0,1,5],0,bmK 46 0 [0,1],0,4611686018427387905⟩
def Amb:List (Nat×Lp×List (Nat×(Nat->V))):=[(0,ApK,[])]
noncomputable def B42 (L:LT):St->T (Ex×St):=λst=>AA tab ⟨Aw tb0,L,Gl⟩ (As Tryz.f42 0) 0 st
theorem r42 {n:Nat} {f:Nat->Int} (hn:n <= 4611686018427387904):(Av (B42 (Go.Sy.askL Amb)) ApK 4611686018427387905 (T42 n f 0)).sem=some (.ex 0,⟨jsV 46 0 Aa [(0,.sl 1 n (λk=>iV (f k))),(1,.sl 1 n (λk=>iV (f k)))],[]⟩) :=
 Bv (S:=λi=>T42 n f (ofNat i)) (m:=n) (show (Ex.ex 0) ≠ .nm from nofun) (λi hi=>DW.rd (.r 6 (ofNat_lt hi) <| .r 2 (Ad hi) <| .k (ltI (f i)) <| .r 2 (Ad hi) <| .k (ltI (f i)) <| .e (nm1 (f:=T42 n f) (D6 (by omega)))) (by kernel_rfl)) (DW.rd (.r 5 (DY n) <| .k eF <| .l) (by kernel_rfl)) (by omega)
noncomputable def AhN (x:V):List V->A5
 | [u,v]=>apI u λn f=>apI v λm g=>.br (pB (n <= 4611686018427387904∧m=n∧∀ i,i<n->g i=f i)) (.leaf (x,[])) .fail
 | _=>.fail
theorem Ae2 {x v:V} {vs:List V} {h':List Blk} (h:(AhN x vs).sem=some (v,h')):∃ (n:Nat) (f:Nat->Int),n <= 4611686018427387904∧Ba vs [.sl 1 n λk=>iV (f k),.sl 1 n λk=>iV (f k)]∧v=x∧h'=[]:=by
 unfold AhN at h;split at h
 ·obtain ⟨n,f,a1,h⟩:=El h
  obtain ⟨m,g,a2,h⟩:=El h;obtain ⟨hp,h⟩:=Ac h;cases Ab h;obtain ⟨hn,rfl,hD⟩:=GO hp;refine ⟨m,f,hn,λS w cs hq=>?_,rfl,rfl⟩;obtain ⟨c,l,rfl,q1,c2,l2,rfl,q2,q3⟩:=hq;exact ⟨c,_,rfl,a1 S w c q1,c2,_,rfl,AeK hD (a2 S w c2 q2),q3⟩
 ·cases h
theorem ArW:Ap Tryz.prog Gl 42 (AhN (iV 0)):=Ah A2 mixed Tryz.func42 (by kernel_rfl) (by kernel_rfl) λvs v h' h=>by
 obtain ⟨n,f,hn,ha,rfl,rfl⟩:=Ae2 h;have hx:=AS Ca Amb (G:=Gl);exact ⟨_,cxA Gl tb0 Amb,_,ha,rfl,hx.1,hx.2,DW.ok (.a (r42 (f:=f) hn) <| .r 2 (DY n) <| .l) (by kernel_rfl),Am.refl _⟩
noncomputable def tb16:A7:=(42,AhN (iV 0))::[]
theorem tb16_ok:Ao Tryz.prog Gl tb16:=.cons ArW .nil
section
variable (n:Nat) (f:Nat->Ini5)
def T17 (c:Int):St:=⟨jsV 26 0 Aa [(0,.sl 5 n (λk=>i5V (f k))),(1,.sl 5 n (λk=>i5V (f k))),(5,iV c)],[]⟩
end
def ApQ:Lp:=⟨bmK 26 0 [0,1,5],0,bmK 26 0 [],0,4611686018427387905⟩
def Amd:List (Nat×Lp×List (Nat×(Nat->V))):=[(0,ApQ,[])]
noncomputable def B17 (L:LT):St->T (Ex×St):=λst=>AA tab ⟨Aw tb0,L,Gl⟩ (As Tryz.f17 0) 0 st
theorem r17 {n:Nat} {f:Nat->Ini5} (hn:n <= 4611686018427387904):(Av (B17 (Go.Sy.askL Amd)) ApQ 4611686018427387905 (T17 n f 0)).sem=some (.ex 0,⟨jsV 26 0 Aa [],[]⟩) :=
 Bv (S:=λi=>T17 n f (ofNat i)) (m:=n) (show (Ex.ex 0) ≠ .nm from nofun) (λi hi=>DW.rd (.k (ofNat_lt hi) <| .r 2 (Ad hi) <| .k (eN (eq5 (f i))) <| .e (nm1 (f:=T17 n f) (D6 (by omega)))) (by kernel_rfl)) (DW.rd (.k (DY n) .l) (by kernel_rfl)) (by omega)
noncomputable def W5:List V->A5
 | [u,v]=>apG AaM u λn f=>apG AaM v λm g=>.br (pB (n <= 4611686018427387904∧m=n∧∀ i,i<n->g i=f i)) (.leaf (bV true,[])) .fail
 | _=>.fail
theorem Asj:Ap Tryz.prog Gl 17 W5:=by
 refine Ah A2 mixed Tryz.func17 (by kernel_rfl) (by kernel_rfl) λvs v h' h=>?_;unfold W5 at h;split at h
 ·rename_i u1 u2
  obtain ⟨n,f,a1,h⟩:=B0 h;obtain ⟨m,g,a2,h⟩:=B0 h;obtain ⟨hp,h⟩:=Ac h;cases Ab h;obtain ⟨hn,rfl,hD⟩:=GO hp;have hx:=AS Ca Amd (G:=Gl);refine ⟨[Ei AaM m f,Ei AaM m f],cxA Gl tb0 Amd,_,λS w cs hq=>?_,rfl,hx.1,hx.2,DW.ok (.k (eN (eI (ofNat m))) <| .a (r17 (f:=f) hn) <| .l) (by kernel_rfl),Am.refl _⟩
  obtain ⟨c,l,rfl,q1,c2,l2,rfl,q2,q3⟩:=hq;exact ⟨c,_,rfl,a1 S w c q1,c2,_,rfl,Mt hD (a2 S w c2 q2),q3⟩
 ·cases h
end Go.Proofs.YtkbafjceglhjhaaGreatDoor.Er
