/-
  Layer 12: the document's code of an event. Conditions: the shape passes.
-/
import Derived.Test.YtkbafjceglhjhaaGreatDoorErJ
namespace Go.Proofs.YtkbafjceglhjhaaGreatDoor.Er
open Go.Sy Go Go.Proofs.YtkbafjceglhjhaaGreatDoor.Ed Go.Proofs.YtkbafjceglhjhaaGreatDoor.Sh
open Int (ofNat)
set_option maxRecDepth 100000
set_option maxHeartbeats 1000000
section
variable (s:Sh7) (i:Nat)
def fcD:In8:=⟨13,0,0,0,0,[],[],(pe6 s (ofNat i)).fence⟩
def bnD:In8:=⟨11,0,pr6 s (ofNat i),0,0,[],lbC (ofNat (lbN s i)),0⟩
def lbD:In8:=⟨12,0,0,0,0,[],lbC (ofNat (lbN s i)),0⟩
def Z2:In8:=⟨9,6,pr6 s (ofNat i),pr6 s (ofNat i),0,[],[],0⟩
def Yj:In8:=⟨9,5,pr6 s (ofNat i),pr6 s (ofNat i),0,[],[],0⟩
def lwD (a:Int):In8:=⟨6,rg9 s i,a,0,0,[],[],0⟩
def tlD (a:Int):List In8:=bif ieq (s.X i).dir 1 then [lwD s i a] else bif ieq (pe6 s (ofNat i)).kind 7 then [Yj s i,or5 s i,swI a] else [or0 s i,swI a]
def EF:List In8 :=
 bif ieq (pe6 s (ofNat i)).kind 5 then fcD s i::tlD s i (at9 s i)
 else bif ieq (pe6 s (ofNat i)).kind 8 then bnD s i::lbD s i::tlD s i (at9 s i)
 else bif ieq (pe6 s (ofNat i)).kind 6 then Z2 s i::ad6 s i::tlD s i 6
 else tlD s i (at9 s i)
theorem MJ (xs:List In8) (xss:List (List In8)) (h:∀ x,x ∈ xss->0<x.length∧x.length <= 16) (e:xss.flatten=xs):(V.ref 0,[Blk.row 72 8 (gF (BY [],EJ []) xss).1 (gF (BY [],EJ []) xss).2])=(V.ref 0,[Blk.row 72 8 (BY xs) (EJ xs)]):=by
 rw [Acg xss [] h,List.nil_append,e]
end
theorem eBq (b:Bool):J0 b b=true:=by cases b <;> rfl
def Zf (e:E6):Bool:=!A4 e || !ieq e.kind 5
theorem Ze:(List.range 112).all (λk=>Zf (Ds k))=true:=by kernel_rfl
theorem AfN {e:E6} (h:Bg e=0):Zf e=true:=by
 rcases Eo e with ⟨k,hk,_,_,he,_⟩ | ⟨h2,_⟩
 ·rw [<- he]
  exact List.all_eq_true.1 Ze k (by simpa using hk)
 ·rw [h2] at h
  cases h
theorem Afy:(List.range 32).all (λk=>seq (lbC (ofNat k)) (VP k))=true:=by kernel_rfl
theorem Akb {k:Nat} (h:k<32):lbC (ofNat k)=VP k:=by
 have:=List.all_eq_true.1 Afy k (by simpa using h);unfold seq at this;simpa using this
section
variable {s:Sh7} (hg:Gs s) {i:Nat} (hi:i<s.nx)
include hg hi
theorem Ahb:Aj (ile 0 (ofNat (lbN s i))) (ilt (ofNat (lbN s i)) 100)=true:=by
 have h1:=Qw s i;have h2:=hg.hi;exact Ae (show lbN s i<100 by omega)
theorem AgI (h:ieq (s.X i).dir 1=true):rg9 s i=rI9 s i:=by
 have _:=hg;have hh:hsF s s.nx (toN (s.X i).th) (ofNat i)=true:=by
  rw [Ha];unfold hsX isT;rw [show toN (ofNat i)=i from rfl,Nat.beq_refl,show isR s i=true from h,ofNat_lt hi,show ile 0 (ofNat i)=true from decide_eq_true (Int.natCast_nonneg _)];rfl
 unfold rg9;rw [hh];rfl
theorem Aln {K:E6} (hK:pe6 s (ofNat i)=K) (h7:ieq K.kind 7=true->rP9 s i=pr6 s (ofNat i)) (hE:ed9 s i=K ∨ ieq K.kind 7=false) (hE':ieq (ed9 s i).kind 7=ieq K.kind 7) (a:Int):(tl9 s i a).flatten=tlD s i a:=by
 unfold tl9 tlD;rw [hE',hK];have _:=hE;cases hd:ieq (s.X i).dir 1 with
 | true =>unfold lwI lwD;rw [AgI hg hi hd];rfl
 | false =>
  cases h:ieq K.kind 7 with
  | false=>rfl
  | true =>unfold xr5 Yj;rw [h7 h];rfl
theorem Aei (hx:∀ i,i<s.nx->Zf (s.E i)=true):(Df s i).flatten=EF s i:=by
 have hok:=hg.ok _ (WY hg (i:=i));unfold Ac0 at hok;simp only [Bool.and_eq_true] at hok;obtain ⟨_,hk,_⟩:=hok;have hP:=AaD hg hi;by_cases h0:0<i∧obE s (i-1)=false
 ·obtain ⟨h0,hob⟩:=h0
  have hpl:=Am3 hg h0 hob hi;have hpv:=NH h0 hi;have hed:=Ahu hg h0 hi;have hr:∀ {k:Bool},(ieq (s.E (pvN s i)).kind 6 || (ieq (s.E (pvN s i)).kind 7 || ieq (s.E (pvN s i)).kind 8))=k->k=true->rP9 s i=pr6 s (ofNat i):=λh h'=>by
   subst h';rw [h] at hk;simp only [Bool.not_true,bFO,Bool.and_eq_true,Bool.not_eq_true'] at hk;have hs:=Cj hk.1;rw [hpv] at hs;exact (Al4 hg h0 hob hi hs).1
  have t:=Aln hg hi (K:=ed9 s i) hed.symm (λh=>hr (k:=true) (by rw [<- hP,<- hed,h]; simp) rfl) (.inl rfl) rfl;unfold Df EF;rw [hpl,<- hed];cases k5:ieq (ed9 s i).kind 5 with
  | true =>simp only [cond_true,List.flatten_cons,t];unfold fcI fcD;rw [hed];rfl
  | false =>
   cases k8:ieq (ed9 s i).kind 8 with
   | true =>
    have hl:lbC (ofNat (lbN s i))=VP (lbN s i):=Akb (by have:=Qw s i; have:=hg.hi; omega);have hR:=hr (k:=true) (by rw [<- hP,<- hed,k8]; simp) rfl;simp only [cond_true,cond_false];unfold bnD lbD;rw [hl];unfold VP;cases ieq (ofNat (Cb (CW (ofNat (lbN s i))))) 1 with
    | true =>simp only [cond_true,List.flatten_cons,t];unfold bnI;rw [hR];rfl
    | false =>simp only [cond_false,List.flatten_cons,t];unfold bnI;rw [hR];rfl
   | false =>
    cases k6:ieq (ed9 s i).kind 6 with
    | true =>have hR:=hr (k:=true) (by rw [<- hP,<- hed,k6]; rfl) rfl;simp only [cond_true,cond_false,List.flatten_cons,t];unfold xr6 Z2;rw [hR];rfl
    | false=>simp only [cond_true,cond_false,t]
 ·have hpl:ilt 0 (s.X i).pl=false:=Aj4 hg (by
   by_cases h1:i=0
   ·exact .inl h1
   ·refine .inr ?_
    cases hob:obE s (i-1) with
    | true=>rfl
    | false=>exact absurd ⟨by omega,hob⟩ h0) hi
  have hob:obE s (pvN s i)=true:=by
   by_cases h1:i=0
   ·subst h1
    have:=hg.lo;have e:pvN s 0=s.nx-1:=by
     unfold pvN;rw [show 0+s.nx-1=s.nx-1 by omega,Nat.mod_eq_of_lt (by omega)]
    rw [e];exact hg.last
   ·rw [NH (by omega) hi]
    cases hob:obE s (i-1) with
    | true=>rfl
    | false=>exact absurd ⟨by omega,hob⟩ h0
  have h5:=hx _ (WY hg (i:=i));unfold Zf at h5;rw [show A4 (s.E (pvN s i))=true from hob,Bool.not_true,bFO,Bool.not_eq_true',<- hP] at h5;rw [show A4 (s.E (pvN s i))=true from hob,Bool.not_true,Bool.and_false,Bool.or_false,Bool.not_eq_true',Bool.or_eq_false_iff,Bool.or_eq_false_iff,<- hP] at hk;unfold Df EF tlD;rw [hpl,h5,hk.1,hk.2.1,hk.2.2];cases hd:ieq (s.X i).dir 1 with
  | true =>unfold lwI lwD;rw [AgI hg hi hd];rfl
  | false=>rfl
end
def P65 (s:Sh7) (n:Nat) (f:Nat->Int) (z y:Int):Prop:=(Gs s∧∀ i,i<s.nx->Zf (s.E i)=true)∧(Bi s.nc (λi=>Bi (s.C i).1 (λ_=>true))=true)∧n=s.nx∧(∀ k,k<s.nx->f k=rg9 s k)∧∃ j,j<s.nx∧z=ofNat j∧y=ofNat (lbN s j)
noncomputable def evT:List V->A3
 | [v,rv,.val (.int .i64 z),.val (.int .i64 y)]=>apS v λs=>apI rv λn f=>.br (pB (P65 s n f z y)) (.leaf (.ref 0,[.row 72 8 (BY (Df s (toN z)).flatten) (EJ (Df s (toN z)).flatten)])) .fail
 | _=>.fail
noncomputable def tb65:A9:=(103,shI Ak4)::(104,lbT)::[]
theorem tb65_ok:Ao Tryz.prog Gl tb65:=.cons Am9 <| .cons Am8 .nil
theorem W4 {S:Nat->Prop} {w:World} {κ:Ar} {n:Nat} {f g:Nat->Int} {c:Value} (h:∀ k,k<n->f k=g k) (hv:VR S w (.sl 1 n λk=>iV (f k)) κ c):VR S w (.sl 1 n λk=>iV (g k)) κ c:=by
 obtain ⟨a,cap,e,hc,hv⟩:=hv;refine ⟨a,cap,e,hc,hv.imp id ?_⟩
 rintro ⟨b,o,ea,hv⟩
 refine ⟨b,o,ea,λi hi=>?_⟩;obtain ⟨ci,q1,q2⟩:=hv i hi;exact ⟨ci,(show VR S w (iV (g i)) (λ_=>none) ci from h i hi ▸ q1),q2⟩
theorem AoL:An Tryz.prog Gl 65 evT:=by
 refine Al A2 mixed Tryz.func65 (by kernel_rfl) (by kernel_rfl) λvs v h' h=>?_;unfold evT at h;split at h
 ·rename_i u rv z y
  obtain ⟨s,a1,h⟩:=apS_some h;obtain ⟨n,f,a2,h⟩:=D2 h;obtain ⟨hp,h⟩:=Ac h;cases Aa h;obtain ⟨⟨hg,hex⟩,hC,rfl,hf,i,hi,rfl,rfl⟩:=I5 hp;have hx:=AU tb65_ok [] (G:=Gl);rw [show toN (ofNat i)=i from rfl,Aei hg hi hex];refine ⟨[EY s,.sl 1 s.nx (λk=>iV (rg9 s k)),nV i,iV (ofNat (lbN s i))],cxA Gl tb65 [],_,λS w cs hq=>?_,rfl,hx.1,hx.2,DW.ok (.k (Ae hi) <| .k (HH hi) <| .k (Acd hg hi 0 0 0).hE <| .k (eI (ofNat i)) <| .k (eI (ofNat s.nx)) <| .k (eI (wr .i64 (Ah (ofNat i) (ofNat s.nx)))) <| .k (eI (wr .i64 (AZ (wr .i64 (Ah (ofNat i) (ofNat s.nx))) 1))) <| .k (eI (ofNat s.nx)) <| .k (HH hi) <| .k (eI (x3 s (ofNat i))) <| .k (eI (pe6 s (ofNat i)).kind) <| .k (eBq (pe6 s (ofNat i)).ext) <| .k (eBq (pe6 s (ofNat i)).same) <| .k (eI (pe6 s (ofNat i)).src) <| .k (eI (pe6 s (ofNat i)).dst) <| .k (eI (pe6 s (ofNat i)).fence) <| .k (eI (ofNat i)) <| .k (eI (ofNat s.nx)) <| .k (eI (wr .i64 (Ah (ofNat i) (ofNat s.nx)))) <| .k (eI (wr .i64 (AZ (wr .i64 (Ah (ofNat i) (ofNat s.nx))) 1))) <| .k (eI (ofNat s.nx)) <| .k (HH hi) <| .k (eI (x3 s (ofNat i))) <| .k (eI (pe6 s (ofNat i)).kind) <| .k (eBq (pe6 s (ofNat i)).ext) <| .k (eBq (pe6 s (ofNat i)).same) <| .k (eI (pe6 s (ofNat i)).src) <| .k (eI (pe6 s (ofNat i)).dst) <| .k (eI (pe6 s (ofNat i)).fence) <| .k (HH hi) <| .k (Acd hg hi 0 0 0).hX <| .k (eL s.ne) <| .k (eL s.nx) <| .k (eL s.nr) <| .k (eL2 s.nc s.C) <| .k (C7 hg) <| .k (Ad4 (C7 hg) hi) <| .c (ieq (pe6 s (ofNat i)).kind 5) (λh1=>.k h1 <| .k (show Bp 0 1 80=true from by decide) <| .c (ieq (s.X i).dir 1) (λh2=>.k h2 <| .k (Ae hi) <| .k (show Bp (AD 0 1) 1 80=true from by decide) <| .e (MJ (EF s i) [[fcD s i],[lwD s i (at9 s i)]] (by simp) (by unfold EF tlD; rw [h1,h2]; rfl))) λh2=>.k h2 <| .c (ieq (pe6 s (ofNat i)).kind 7) (λh3=>.k h3 <| .k (show Bp (AD 0 1) 1 80=true from by decide) <| .k (show Bp (AD (AD 0 1) 1) 1 80=true from by decide) <| .k (show Bp (AD (AD (AD 0 1) 1) 1) 1 80=true from by decide) <| .e (MJ (EF s i) [[fcD s i],[Yj s i],[or5 s i],[swI (at9 s i)]] (by simp) (by unfold EF tlD; rw [h1,h2,h3]; rfl))) λh3=>.k h3 <| .k (show Bp (AD 0 1) 1 80=true from by decide) <| .k (show Bp (AD (AD 0 1) 1) 1 80=true from by decide) <| .e (MJ (EF s i) [[fcD s i],[or0 s i],[swI (at9 s i)]] (by simp) (by unfold EF tlD; rw [h1,h2,h3]; rfl))) λh1=>.k h1 <| .c (ieq (pe6 s (ofNat i)).kind 8) (λh4=>.k h4 <| .k (Ahb hg hi) <| .k (show Bp 0 1 80=true from by decide) <| .k (Ahb hg hi) <| .k (show Bp (AD 0 1) 1 80=true from by decide) <| .c (ieq (s.X i).dir 1) (λh5=>.k h5 <| .k (Ae hi) <| .k (show Bp (AD (AD 0 1) 1) 1 80=true from by decide) <| .e (MJ (EF s i) [[bnD s i],[lbD s i],[lwD s i (at9 s i)]] (by simp) (by unfold EF tlD; rw [h1,h4,h5]; rfl))) λh5=>.k h5 <| .c (ieq (pe6 s (ofNat i)).kind 7) (λh6=>.k h6 <| .k (show Bp (AD (AD 0 1) 1) 1 80=true from by decide) <| .k (show Bp (AD (AD (AD 0 1) 1) 1) 1 80=true from by decide) <| .k (show Bp (AD (AD (AD (AD 0 1) 1) 1) 1) 1 80=true from by decide) <| .e (MJ (EF s i) [[bnD s i],[lbD s i],[Yj s i],[or5 s i],[swI (at9 s i)]] (by simp) (by unfold EF tlD; rw [h1,h4,h5,h6]; rfl))) λh6=>.k h6 <| .k (show Bp (AD (AD 0 1) 1) 1 80=true from by decide) <| .k (show Bp (AD (AD (AD 0 1) 1) 1) 1 80=true from by decide) <| .e (MJ (EF s i) [[bnD s i],[lbD s i],[or0 s i],[swI (at9 s i)]] (by simp) (by unfold EF tlD; rw [h1,h4,h5,h6]; rfl))) λh4=>.k h4 <| .c (ieq (pe6 s (ofNat i)).kind 6) (λh7=>.k h7 <| .k (show Bp 0 1 80=true from by decide) <| .k (show Bp (AD 0 1) 1 80=true from by decide) <| .c (ieq (s.X i).dir 1) (λh8=>.k h8 <| .k (Ae hi) <| .k (show Bp (AD (AD 0 1) 1) 1 80=true from by decide) <| .e (MJ (EF s i) [[Z2 s i],[ad6 s i],[lwD s i 6]] (by simp) (by unfold EF tlD; rw [h1,h4,h7,h8]; rfl))) λh8=>.k h8 <| .c (ieq (pe6 s (ofNat i)).kind 7) (λh9=>.k h9 <| .k (show Bp (AD (AD 0 1) 1) 1 80=true from by decide) <| .k (show Bp (AD (AD (AD 0 1) 1) 1) 1 80=true from by decide) <| .k (show Bp (AD (AD (AD (AD 0 1) 1) 1) 1) 1 80=true from by decide) <| .e (MJ (EF s i) [[Z2 s i],[ad6 s i],[Yj s i],[or5 s i],[swI 6]] (by simp) (by unfold EF tlD; rw [h1,h4,h7,h8,h9]; rfl))) λh9=>.k h9 <| .k (show Bp (AD (AD 0 1) 1) 1 80=true from by decide) <| .k (show Bp (AD (AD (AD 0 1) 1) 1) 1 80=true from by decide) <| .e (MJ (EF s i) [[Z2 s i],[ad6 s i],[or0 s i],[swI 6]] (by simp) (by unfold EF tlD; rw [h1,h4,h7,h8,h9]; rfl))) λh7=>.k h7 <| .c (ieq (s.X i).dir 1) (λh10=>.k h10 <| .k (Ae hi) <| .k (show Bp 0 1 80=true from by decide) <| .e (MJ (EF s i) [[lwD s i (at9 s i)]] (by simp) (by unfold EF tlD; rw [h1,h4,h7,h10]; rfl))) λh10=>.k h10 <| .c (ieq (pe6 s (ofNat i)).kind 7) (λh11=>.k h11 <| .k (show Bp 0 1 80=true from by decide) <| .k (show Bp (AD 0 1) 1 80=true from by decide) <| .k (show Bp (AD (AD 0 1) 1) 1 80=true from by decide) <| .e (MJ (EF s i) [[Yj s i],[or5 s i],[swI (at9 s i)]] (by simp) (by unfold EF tlD; rw [h1,h4,h7,h10,h11]; rfl))) λh11=>.k h11 <| .k (show Bp 0 1 80=true from by decide) <| .k (show Bp (AD 0 1) 1 80=true from by decide) <| .e (MJ (EF s i) [[or0 s i],[swI (at9 s i)]] (by simp) (by unfold EF tlD; rw [h1,h4,h7,h10,h11]; rfl))) (by kernel_rfl),Ap.refl _⟩
  obtain ⟨c,l,rfl,q1,c2,l2,rfl,q2,q3⟩:=hq;exact ⟨c,_,rfl,a1 S w c q1,c2,_,rfl,W4 hf (a2 S w c2 q2),q3⟩
 ·cases h
end Go.Proofs.YtkbafjceglhjhaaGreatDoor.Er
namespace Go.Proofs.YtkbafjceglhjhaaGreatDoor.Er
open Go.Sy Go Go.Proofs.YtkbafjceglhjhaaGreatDoor.Ed Go.Proofs.YtkbafjceglhjhaaGreatDoor.Sh
open Int (ofNat)
set_option maxRecDepth 100000
set_option maxHeartbeats 1000000
def Gz (s:Sh7):Prop:=Gs s∧∀ i,i<s.nx->Zf (s.E i)=true
theorem AnB {s:Sh7} (h:ieq (B0 s) 0=true):Gz s:=by
 have hg:=good h;refine ⟨hg,?_⟩;have hc:D1 s=true:=by
  cases hc:D1 s with
  | true=>rfl
  | false =>unfold B0 at h;rw [hc] at h;cases h
 unfold D1 at hc;obtain ⟨h1,hc⟩:=AM hc;unfold J5 at hc;obtain ⟨_,hc⟩:=AM hc;obtain ⟨_,hc⟩:=AM hc;obtain ⟨_,hc⟩:=AM hc;obtain ⟨hE,_⟩:=AM hc;have hG:=ED (Bs h1);intro i hi;have hne:=hg.ne;rw [(Kw.1 hE).2 i (by omega)];exact AfN (Fb.1 hG.may i (by omega))
theorem rbU (l:List In8):Cm [.row 72 8 (BY l) (EJ l)]=true:=by
 simp only [Cm,Bool.and_true,List.all_eq_true,List.mem_range];intro k hk;rw [<- Xf l k hk];rfl
theorem Akh (l xs:List In8):Bo (BY l) (BY xs) (EJ l) (EJ xs)=EJ (l++xs):=by
 funext k;unfold EJ;rw [List.map_append,Rx,List.length_map];cases xs with
 | nil =>show Pj l.length (λk=>nth (l.map i8V) k) (λk=>nth ([].map i8V) k) k=_;rw [FQ]
 | cons x t =>
 cases t with
 | nil =>
  show AG l.length (λk=>nth (l.map i8V) k) (i8V x) k=_;rw [Bu];show (bif Nat.beq k l.length then i8V x else nth (l.map i8V) k)=bif Nat.blt k l.length then nth (l.map i8V) k else nth [i8V x] (k-l.length);rw [NX];cases hk:Nat.beq k l.length with
  | true =>
   have:=Nat.eq_of_beq_eq_true hk;subst this;rw [show Nat.blt l.length l.length=false from by
    cases hb:Nat.blt l.length l.length with
    | false=>rfl
    | true=>have:=Nat.le_of_ble_eq_true hb; omega,Nat.sub_self]
   rfl
  | false =>
   have:=Nat.ne_of_beq_eq_false hk;cases hb:Nat.blt k l.length with
   | true=>rfl
   | false =>
    have hge:l.length <= k:=Nat.le_of_not_lt λhc=>by rw [show Nat.blt k l.length=true from Nat.ble_eq_true_of_le hc] at hb; cases hb
    have hz:Nat.beq (k-l.length) 0=false:=by
     cases hq:Nat.beq (k-l.length) 0 with
     | false=>rfl
     | true=>have:=Nat.eq_of_beq_eq_true hq; omega
    rw [hz];show nth (l.map i8V) k=V.und;have:∀ (l:List V) (k:Nat),l.length <= k->nth l k = .und:=λl=>by
     induction l with
     | nil=>intro k _; rfl
     | cons v l ih =>
      intro k hk;cases k with
      | zero=>simp at hk
      | succ k=>exact ih k (by simpa using hk)
    exact this _ _ (by simpa using hge)
 | cons y t =>show Pj l.length (λk=>nth (l.map i8V) k) (λk=>nth ((x::y::t).map i8V) k) k=_;rw [FQ]
section
variable (s:Sh7)
def T37 (lab c:Int) (lv:Nat->Bool) (ln:Nat->Nat) (mm:Nat->Nat->V):St:=⟨jsV 61 0 Ab [(1,.ptr 0 0),(3,.jref 2),(4,.ref 3),(5,iV lab),(6,iV (ofNat s.nx)),(7,iV c)],[cl7 s,.jag ⟨63,1,0,λ_=>.und,0,72,8,λ_=>true,λ_=>0,λ_ _=>.und,none⟩,.jag ⟨63,1,toN s.tt,λ_=>.nilS,0,72,8,lv,ln,mm,none⟩,.row 3 1 s.nx (λk=>iV (rg9 s k))]⟩
def S37 (i:Nat):St:=T37 s (ofNat (lbN s i)) (ofNat i) (λ_=>true) (λu=>BY (cdL s i u)) (λu=>EJ (cdL s i u))
def x37:Ex×St:=(.ex 0,⟨jsV 61 0 Ab [(3,.jref 2)],[cl7 s,.jag ⟨63,1,0,λ_=>.und,0,72,8,λ_=>true,λ_=>0,λ_ _=>.und,none⟩,AfQ s]⟩)
noncomputable def Aof:A3:=.br (pB (Gz s)) (.leaf (.jref 0,[codJ s])) .fail
end
def lp37:Lp:=⟨bmK 61 0 [1,3,4,5,6,7],4,bmK 61 0 [3],3,4611686018427387905⟩
noncomputable def Ai2:A9:=(38,shT AiI)::(65,evT)::[]
theorem AdK:Ao Tryz.prog Gl Ai2:=.cons Am5 <| .cons AoL .nil
noncomputable def B37 (id:Nat) (L:LT):St->T (Ex×St):=λst=>A8 tab ⟨Ax Ai2,L,Gl⟩ (As Tryz.f37 id) id st
def AjP:List (Nat×Lp×List (Nat×(Nat->V))):=[(0,lp37,[(2,λ_=>.und)])]
section
variable {s:Sh7} (hy:Gz s) {i:Nat} (hi:i<s.nx)
include hy hi
theorem Aj6:P65 s s.nx (rg9 s) (ofNat i) (ofNat (lbN s i)):=⟨hy,eL2 s.nc s.C,rfl,λ_ _=>rfl,i,hi,rfl,rfl⟩
theorem Aom:Bp (BY (cdL s i (toN (s.X i).th))) (BY (Df s i).flatten) 80=true:=decide_eq_true (by
 have h1:=LZ s (toN (s.X i).th) i;have h2:=WN s i;have h3:=hy.1.hi;unfold BY at *;omega)
theorem Xp:lbN s (i+1)=bif ieq (pe6 s (ofNat i)).kind 8 then lbN s i+1 else lbN s i:=by
 obtain ⟨hg,hx⟩:=hy;have hP:=AaD hg hi;have hok:=hg.ok _ (WY hg (i:=i));unfold Ac0 at hok;simp only [Bool.and_eq_true] at hok;obtain ⟨_,hk,_⟩:=hok;by_cases h0:0<i∧obE s (i-1)=false
 ·obtain ⟨h0,hob⟩:=h0
  rw [lbN,Am3 hg h0 hob hi,Ahu hg h0 hi];cases k5:ieq (pe6 s (ofNat i)).kind 5 with
  | true=>rw [Af9 (Cj k5)]; rfl
  | false=>rfl
 ·have hpl:ilt 0 (s.X i).pl=false:=Aj4 hg (by
   by_cases h1:i=0
   ·exact .inl h1
   ·refine .inr ?_
    cases hob:obE s (i-1) with
    | true=>rfl
    | false=>exact absurd ⟨by omega,hob⟩ h0) hi
  have hob:obE s (pvN s i)=true:=by
   by_cases h1:i=0
   ·subst h1
    have:=hg.lo;have e:pvN s 0=s.nx-1:=by
     unfold pvN;rw [show 0+s.nx-1=s.nx-1 by omega,Nat.mod_eq_of_lt (by omega)]
    rw [e];exact hg.last
   ·rw [NH (by omega) hi]
    cases hob:obE s (i-1) with
    | true=>rfl
    | false=>exact absurd ⟨by omega,hob⟩ h0
  rw [show A4 (s.E (pvN s i))=true from hob,Bool.not_true,Bool.and_false,Bool.or_false,Bool.not_eq_true',Bool.or_eq_false_iff,Bool.or_eq_false_iff,<- hP] at hk;rw [lbN,hpl,hk.2.2];rfl
theorem lb8 (h:ieq (pe6 s (ofNat i)).kind 8=true):wr .i64 (Ah (ofNat (lbN s i)) 1)=ofNat (lbN s (i+1)):=by
 have:=Qw s i;have:=hy.1.hi;rw [Xp hy hi,h];exact Gp (by omega)
theorem lb0 (h:ieq (pe6 s (ofNat i)).kind 8=false):ofNat (lbN s i)=ofNat (lbN s (i+1)):=by
 rw [Xp hy hi,h];rfl
theorem Ant {lab:Int} (hl:lab=ofNat (lbN s (i+1))):(Ex.nm,T37 s lab (wr .i64 (Ah (ofNat i) 1)) (Cs (Cs (λ_=>true) (toN (s.X i).th) false) (toN (s.X i).th) true) (Db (λu=>BY (cdL s i u)) (toN (s.X i).th) (AD (BY (cdL s i (toN (s.X i).th))) (BY (Df s i).flatten)))
  (CN (λu=>EJ (cdL s i u)) (toN (s.X i).th) (Bo (BY (cdL s i (toN (s.X i).th))) (BY (Df s i).flatten) (EJ (cdL s i (toN (s.X i).th))) (EJ (Df s i).flatten))))=(Ex.nm,S37 s (i+1)):=by
 have e:cdL s (i+1)=upL (cdL s i) (toN (s.X i).th) (cdL s i (toN (s.X i).th)++(Df s i).flatten):=by
  funext u;rw [cdL];unfold upL;cases hu:Nat.beq u (toN (s.X i).th) with
  | true=>rw [Nat.eq_of_beq_eq_true hu]
  | false=>rfl
 unfold S37;rw [hl,w16 hi (by have:=hy.1.hi; omega),e,NA,Akh,show AD (BY (cdL s i (toN (s.X i).th))) (BY (Df s i).flatten)=BY (cdL s i (toN (s.X i).th)++(Df s i).flatten) from by unfold AD BY; simp,Vi BY,Vj EJ]
omit hi
theorem r37:(Au (B37 0 (Go.Sy.askL AjP)) lp37 4611686018427387905 (S37 s 0)).sem=some (x37 s) :=
 B6 (S:=S37 s) (m:=s.nx) (show (Ex.ex 0) ≠ .nm from nofun) (λi hi=>DW.rd (.k (ofNat_lt hi) <| .k (eG [0,toN s.tt]) <| .k (eL s.ne) <| .k (eL s.nx) <| .k (eL s.nr) <| .k (eL2 s.nc s.C) <| .k (eL s.nx) <| .k (Gr (Aj6 hy hi)) <| .k (rbU (Df s i).flatten) <| .k (HH hi) <| .k (Acd hy.1 hi 0 0 0).hE <| .c (ieq (pe6 s (ofNat i)).kind 8) (λh1=>.k h1 <| .k (Ae hi) <| .k (Cr (C7 hy.1) hi) <| .k (BD (C7 hy.1) hi) <| .r 2 eT <| .k (Aom hy hi) <| .k (Cr (C7 hy.1) hi) <| .k (BD (C7 hy.1) hi) <| .e (Ant hy hi (lb8 hy hi h1))) λh1=>.k h1 <| .k (Ae hi) <| .k (Cr (C7 hy.1) hi) <| .k (BD (C7 hy.1) hi) <| .r 2 eT <| .k (Aom hy hi) <| .k (Cr (C7 hy.1) hi) <| .k (BD (C7 hy.1) hi) <| .e (Ant hy hi (lb0 hy hi h1))) (by kernel_rfl)) (DW.rd (.k (F3 s.nx) .l) (by kernel_rfl)) (by have:=hy.1.hi; omega)
end
theorem AoO:An Tryz.prog Gl 37 (shT Aof):=V6 Tryz.func37 (by kernel_rfl) (by kernel_rfl) (Γ:=λ_=>cxA Gl Ai2 AjP) (λ_=>rfl) (λ_=>AU AdK AjP) λs v h' h=>by
 obtain ⟨hp,h⟩:=Ac h;cases Aa h;have hy:=I5 hp;exact ⟨[AfQ s],DW.ok (.k (AaC (C7 hy.1) 24 (by decide)) <| .k (eL s.ne) <| .k (eL s.nx) <| .k (eL s.nr) <| .k (eL2 s.nc s.C) <| .k (C7 hy.1) <| .a (r37 hy) <| .l) (by kernel_rfl),.consB (.jag (λ_ _=>.inl rfl) (λ_ _=>rfl) (λ_ _=>rfl) λk _ q hq=>Xf _ q hq) (Ap.refl [])⟩
noncomputable def ZW:A9:=(36,shT Pz)::(37,shT Aof)::(38,shT AiI)::[]
theorem SS:Ao Tryz.prog Gl ZW:=.cons p36 <| .cons AoO <| .cons Am5 .nil
theorem Apf:An Tryz.prog Gl 10 (shT Sr):=I4 Tryz.func10 (by kernel_rfl) (by kernel_rfl) (Γ:=λ_=>cxA Gl ZW []) (λ_=>rfl) (λ_=>AU SS []) λs r h=>by
 obtain ⟨h1,h⟩:=Ac h;obtain ⟨h2,h⟩:=Ac h;cases h3:ieq (B0 s) 0 with
 | true =>rw [h3] at h;obtain ⟨_,h⟩:=Ac h;cases Aa h;exact DW.ok (.k (eL s.ne) <| .k (eL s.nx) <| .k (eL s.nr) <| .k (eL2 s.nc s.C) <| .k h1 <| .k h2 <| .k (eN h3) <| .k (eL s.ne) <| .k (eL s.nx) <| .k (eL s.nr) <| .k (eL2 s.nc s.C) <| .k (Gr (AnB h3)) <| .l) (by kernel_rfl)
 | false =>rw [h3] at h;cases Aa h;exact DW.ok (.k (eL s.ne) <| .k (eL s.nx) <| .k (eL s.nr) <| .k (eL2 s.nc s.C) <| .k h1 <| .k h2 <| .k (eN h3) <| .l) (by kernel_rfl)
theorem Apb:An Tryz.prog Gl 12 (shT rgC):=I4 Tryz.func12 (by kernel_rfl) (by kernel_rfl) (Γ:=λ_=>cxA Gl ZW []) (λ_=>rfl) (λ_=>AU SS []) λs r h=>by
 obtain ⟨h1,h⟩:=Ac h;obtain ⟨h2,h⟩:=Ac h;cases h3:ieq (B0 s) 0 with
 | true =>rw [h3] at h;obtain ⟨h4,h⟩:=Ac h;cases Aa h;exact DW.ok (.k (eL s.ne) <| .k (eL s.nx) <| .k (eL s.nr) <| .k (eL2 s.nc s.C) <| .k h1 <| .k h2 <| .k (eN h3) <| .k (eL s.ne) <| .k (eL s.nx) <| .k (eL s.nr) <| .k (eL2 s.nc s.C) <| .k h4 <| .l) (by kernel_rfl)
 | false =>rw [h3] at h;cases Aa h;exact DW.ok (.k (eL s.ne) <| .k (eL s.nx) <| .k (eL s.nr) <| .k (eL2 s.nc s.C) <| .k h1 <| .k h2 <| .k (eN h3) <| .l) (by kernel_rfl)
def AjF:List V->A3
 | [.val (.int .i64 y)]=>.leaf (.str (Cw y),[])
 | _=>.fail
noncomputable def tb41:A9:=(66,VL)::[]
theorem tb41_ok:Ao Tryz.prog Gl tb41:=.cons Sh.p38 .nil
theorem AoN:An Tryz.prog Gl 41 AjF:=by
 refine Al A2 mixed Tryz.func41 (by kernel_rfl) (by kernel_rfl) λvs v h' h=>?_;unfold AjF at h;split at h
 ·cases Aa h
  have hx:=AU tb41_ok [] (G:=Gl);exact ⟨_,cxA Gl tb41 [],_,Bz.refl _,rfl,hx.1,hx.2,DW.ok .l (by kernel_rfl),Ap.refl _⟩
 ·cases h
section
variable (s:Sh7) (u:Nat)
def T14_2 (c:Int) (n:Nat) (g:Nat->V):St:=⟨jsV 44 0 Ab [(1,.ptr 0 0),(4,.ref 2),(6,nV u),(7,.ref 3),(8,iV c)],[cl7 s,.row 68 5 0 Ab,.row 68 5 n g,.row 3 1 (Bm (locL s s.nx u)) (Hp (locL s s.nx u))]⟩
def T14 (c:Int) (l:List Nt):St:=⟨jsV 44 0 Ab [(1,.ptr 0 0),(4,.ref 2),(6,iV c)],[cl7 s,.row 68 5 0 Ab,.row 68 5 (Cn l) (Gt l)]⟩
def Agx:Ex×St:=(.ex 2,T14 s (ofNat u) (inL s (u+1)))
def x14:Ex×St:=(.ex 0,⟨jsV 44 0 Ab [(4,.ref 2)],[cl7 s,.row 68 5 0 Ab,.row 68 5 (Cn (inL s (toN s.tt))) (Gt (inL s (toN s.tt)))]⟩)
end
def lp14_2:Lp:=⟨bmK 44 0 [1,4,6,7,8],4,bmK 44 0 [1,4,6],3,4611686018427387905⟩
def lp14:Lp:=⟨bmK 44 0 [1,4,6],3,bmK 44 0 [4],3,4611686018427387905⟩
noncomputable def ZU:A9:=(36,shT Pz)::(40,shI AaV)::(41,AjF)::[]
theorem ZT:Ao Tryz.prog Gl ZU:=.cons p36 <| .cons Aj7 <| .cons AoN .nil
noncomputable def B14 (id:Nat) (L:LT):St->T (Ex×St):=λst=>A8 tab ⟨Ax ZU,L,Gl⟩ (As Tryz.f14 id) id st
def ls14:List (Nat×Lp×List (Nat×(Nat->V))):=[(0,lp14,[(2,λ_=>ntV zT)]),(2,lp14_2,[])]
section
variable {s:Sh7} (hF:plB s=true) {u i:Nat}
include hF
theorem All (hu:u<toN s.tt):ilt (ofNat u) s.tt=true:=by
 rw [<- (Br hF).2.2.1];exact ofNat_lt hu
theorem Alm:ilt (ofNat (toN s.tt)) s.tt=false:=by
 have:=(Br hF).2.2.1;rw [this];exact decide_eq_false (by omega)
theorem Apw (hi:i<Bm (locL s s.nx u)):(Ex.nm,T14_2 s u (wr .i64 (Ah (ofNat i) 1)) (AD (Cn (ntL s u i)) 1) (AG (Cn (ntL s u i)) (Gt (ntL s u i)) (.agg [nV u,iV (wr .i64 (Ah 7 (ofNat i))),.str [],.str (Cw (DO (locL s s.nx u) i)),iV 0])))=(Ex.nm,T14_2 s u (ofNat (i+1)) (Cn (ntL s u (i+1))) (Gt (ntL s u (i+1)))):=by
 have h16:=Qf hF u;refine nm3 (w16 hi (by omega)) (by rw [NY]; unfold Cn AD; simp) ?_;rw [NY,show wr .i64 (Ah 7 (ofNat i))=ofNat (7+i) from GL (k:=7+i) (by omega),<- Qn];rfl
theorem r14_2 (hu:u<toN s.tt):(Au (B14 2 (Go.Sy.askL ls14)) lp14_2 4611686018427387905 (T14_2 s u 0 (Cn (inL s u)) (Gt (inL s u)))).sem=some (Agx s u):=by
 have h:=B6 (f:=B14 2 (Go.Sy.askL ls14)) (lp:=lp14_2) (S:=λi=>T14_2 s u (ofNat i) (Cn (ntL s u i)) (Gt (ntL s u i))) (m:=Bm (locL s s.nx u)) (x:=Agx s u) (show (Ex.ex 2) ≠ .nm from nofun) (λi hi=>DW.rd (.k (ofNat_lt hi) <| .k (Ae hi) <| .k (decide_eq_true hi) <| .k (Aoo hF hu hi) <| .e (Apw hF hi)) (by kernel_rfl))
  (DW.rd (.k (F3 (Bm (locL s s.nx u))) .l) (by kernel_rfl)) (q:=4611686018427387905) (by have:=Qf hF u; omega)
 rw [AgR] at h;exact h
theorem r14:(Au (B14 0 (Go.Sy.askL ls14)) lp14 4611686018427387905 (T14 s 0 [])).sem=some (x14 s) :=
 B6 (S:=λi=>T14 s (ofNat i) (inL s i)) (m:=toN s.tt) (show (Ex.ex 0) ≠ .nm from nofun) (λi hi=>DW.rd (.k (All hF hi) <| .k (eL s.ne) <| .k (eL s.nx) <| .k (eL s.nr) <| .k (eL2 s.nc s.C) <| .k hF <| .k (show ile 0 (ofNat i)=true from decide_eq_true (Int.natCast_nonneg i)) <| .a (r14_2 hF hi) <| .e (nm2 (f:=T14 s) (w16 hi (by have:=(Br hF).2.1; omega)) rfl)) (by kernel_rfl))
  (DW.rd (.k (Alm hF) .l) (by kernel_rfl)) (by have:=(Br hF).2.1; omega)
end
theorem AoY:An Tryz.prog Gl 14 (shT TU):=I4 Tryz.func14 (by kernel_rfl) (by kernel_rfl) (Γ:=λ_=>cxA Gl ZU ls14) (λ_=>rfl) (λ_=>AU ZT ls14) λs r h=>by
 obtain ⟨h1,h⟩:=Ac h;obtain ⟨h2,h⟩:=Ac h;cases h3:ieq (B0 s) 0 with
 | true =>rw [h3] at h;obtain ⟨hF,h⟩:=Ac h;cases Aa h;exact DW.ok (.k (eL s.ne) <| .k (eL s.nx) <| .k (eL s.nr) <| .k (eL2 s.nc s.C) <| .k h1 <| .k h2 <| .k (eN h3) <| .a (r14 hF) <| .l) (by kernel_rfl)
 | false =>rw [h3] at h;cases Aa h;exact DW.ok (.k (eL s.ne) <| .k (eL s.nx) <| .k (eL s.nr) <| .k (eL2 s.nc s.C) <| .k h1 <| .k h2 <| .k (eN h3) <| .l) (by kernel_rfl)
end Go.Proofs.YtkbafjceglhjhaaGreatDoor.Er
