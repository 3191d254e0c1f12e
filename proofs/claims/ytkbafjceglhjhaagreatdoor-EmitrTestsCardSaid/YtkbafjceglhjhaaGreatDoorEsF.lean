/-
  Layer 12: shapes that are the same; a shape in memory of its own; a spoilt test; numbers put behind others. No conditions.
-/
import Derived.Test.YtkbafjceglhjhaaGreatDoorEsD
import Derived.Test.YtkbafjceglhjhaaGreatDoorCyZ
namespace Go.Proofs.YtkbafjceglhjhaaGreatDoor.Er
open Go.Sy Go Go.Proofs.YtkbafjceglhjhaaGreatDoor.Ed Go.Proofs.YtkbafjceglhjhaaGreatDoor.Sh
open Int (ofNat)
set_option maxRecDepth 100000
set_option maxHeartbeats 1000000
section
variable (s:Sh7)
def T18 (q:Nat) (c:Int):St:=⟨jsV 146 0 Aa [(2,.ptr 0 0),(3,.ptr 1 0),(q,iV c)],[cl7 s,cl7 s]⟩
def AeS (u:Nat) (c:Int):St:=⟨jsV 146 0 Aa [(2,.ptr 0 0),(3,.ptr 1 0),(7,nV u),(8,iV c)],[cl7 s,cl7 s]⟩
def x18:St:=⟨jsV 146 0 Aa [(2,.ptr 0 0),(3,.ptr 1 0)],[cl7 s,cl7 s]⟩
end
def lp18:Lp:=⟨bmK 146 0 [2,3,5],2,bmK 146 0 [2,3],2,4611686018427387905⟩
def AcZ:Lp:=⟨bmK 146 0 [2,3,6],2,bmK 146 0 [2,3],2,4611686018427387905⟩
def AcY:Lp:=⟨bmK 146 0 [2,3,7],2,bmK 146 0 [],0,4611686018427387905⟩
def AcX:Lp:=⟨bmK 146 0 [2,3,7,8],2,bmK 146 0 [2,3,7],2,4611686018427387905⟩
def Aap:List (Nat×Lp×List (Nat×(Nat->V))):=[(0,lp18,[]),(2,AcZ,[]),(4,AcY,[]),(6,AcX,[])]
noncomputable def tb18:A7:=(43,On)::[]
theorem tb18_ok:Ao Tryz.prog Gl tb18:=.cons Ed.p36 .nil
noncomputable def B18 (id:Nat) (L:LT):St->T (Ex×St):=λst=>AA tab ⟨Aw tb18,L,Gl⟩ (As Tryz.f18 id) id st
section
variable {s:Sh7}
theorem r18 (hn:s.nx <= 4611686018427387904):(Av (B18 0 (Go.Sy.askL Aap)) lp18 4611686018427387905 (T18 s 5 0)).sem=some (.ex 0,x18 s) :=
 Bv (S:=λi=>T18 s 5 (ofNat i)) (m:=s.nx) (show (Ex.ex 0) ≠ .nm from nofun) (λi hi=>DW.rd (.k (ofNat_lt hi) <| .r 2 (Ad hi) <| .k (eN (eA (eI (s.X i).th) (eA (eI (s.X i).pl) (eA (eI (s.X i).dir) (eA (eI (s.X i).loc) (eA (eI (s.X i).val) eT)))))) <| .e (nm1 (f:=T18 s 5) (D6 (by omega)))) (by kernel_rfl)) (DW.rd (.k (DY s.nx) .l) (by kernel_rfl)) (by omega)
theorem AoX (hn:s.nr <= 4611686018427387904):(Av (B18 2 (Go.Sy.askL Aap)) AcZ 4611686018427387905 (T18 s 6 0)).sem=some (.ex 2,x18 s) :=
 Bv (S:=λi=>T18 s 6 (ofNat i)) (m:=s.nr) (show (Ex.ex 2) ≠ .nm from nofun) (λi hi=>DW.rd (.k (ofNat_lt hi) <| .r 2 (Ad hi) <| .k (eN (eI (s.R i))) <| .e (nm1 (f:=T18 s 6) (D6 (by omega)))) (by kernel_rfl)) (DW.rd (.k (DY s.nr) .l) (by kernel_rfl)) (by omega)
theorem AoV {u:Nat} (hu:u<s.nc) (hn:(s.C u).1 <= 4611686018427387904):(Av (B18 6 (Go.Sy.askL Aap)) AcX 4611686018427387905 (AeS s u 0)).sem=some (.ex 6,T18 s 7 (ofNat u)) :=
 Bv (S:=λi=>AeS s u (ofNat i)) (m:=(s.C u).1) (show (Ex.ex 6) ≠ .nm from nofun) (λi hi=>DW.rd (.k (Ad hu) <| .k (ofNat_lt hi) <| .k (Ad hu) <| .k (Ad hi) <| .k (Ad hu) <| .k (Ad hi) <| .k (eN (eI ((s.C u).2 i))) <| .e (nm1 (f:=AeS s u) (D6 (by omega)))) (by kernel_rfl)) (DW.rd (.k (Ad hu) <| .k (DY (s.C u).1) .l) (by kernel_rfl)) (by omega)
theorem AoW (hn:s.nc <= 4611686018427387904) (hs:∀ i,i<s.nc->(s.C i).1 <= 4611686018427387904):(Av (B18 4 (Go.Sy.askL Aap)) AcY 4611686018427387905 (T18 s 7 0)).sem=some (.ex 4,⟨jsV 146 0 Aa [],[]⟩) :=
 Bv (S:=λi=>T18 s 7 (ofNat i)) (m:=s.nc) (show (Ex.ex 4) ≠ .nm from nofun) (λi hi=>DW.rd (.k (ofNat_lt hi) <| .r 2 (Ad hi) <| .k (eN (eI (ofNat (s.C i).1))) <| .a (AoV hi (hs i hi)) <| .e (nm1 (f:=T18 s 7) (D6 (by omega)))) (by kernel_rfl)) (DW.rd (.k (DY s.nc) .l) (by kernel_rfl)) (by omega)
end
structure P18 (s z:Sh7):Prop where
 sm:D7 s=true
 ar:z.arch=s.arch
 tt:z.tt=s.tt
 kk:z.kk=s.kk
 ne:z.ne=s.ne
 E:∀ i,i<s.ne->z.E i=s.E i
 nx:z.nx=s.nx
 X:∀ i,i<s.nx->z.X i=s.X i
 nr:z.nr=s.nr
 R:∀ i,i<s.nr->z.R i=s.R i
 nc:z.nc=s.nc
 C:∀ i,i<s.nc->(z.C i).1=(s.C i).1∧∀ k,k<(z.C i).1->(z.C i).2 k=(s.C i).2 k
theorem P18.self {s:Sh7} (h:D7 s=true):P18 s s:=⟨h,rfl,rfl,rfl,rfl,λ_ _=>rfl,rfl,λ_ _=>rfl,rfl,λ_ _=>rfl,rfl,λ_ _=>⟨rfl,λ_ _=>rfl⟩⟩
theorem AfX {s z:Sh7} (h:P18 s z) {S:Nat->Prop} {w:World} {u:Value} (hv:VR S w (EC z) noK u):VR S w (EC s) noK u:=by
 obtain ⟨ca,rfl,a1,l1,rfl,q1,a2,l2,rfl,q2,a3,l3,rfl,q3,a4,l4,rfl,q4,a5,l5,rfl,q5,a6,l6,rfl,q6,a7,l7,rfl,q7,q8⟩:=hv;refine ⟨_,rfl,a1,_,rfl,?_,a2,_,rfl,?_,a3,_,rfl,?_,a4,_,rfl,?_,a5,_,rfl,?_,a6,_,rfl,?_,a7,_,rfl,?_,q8⟩
 ·rw [<- h.ar]; exact q1
 ·rw [<- h.ne]; exact Mt (λi hi=>h.E i (by rw [<- h.ne]; exact hi)) q2
 ·rw [<- h.nx]; exact Mt (λi hi=>h.X i (by rw [<- h.nx]; exact hi)) q3
 ·rw [<- h.tt]; exact q4
 ·rw [<- h.kk]; exact q5
 ·rw [<- h.nr]; exact Mt (λi hi=>h.R i (by rw [<- h.nr]; exact hi)) q6
 ·rw [<- h.nc]; exact SE (c:=LF) (λi hi=>h.C i (by rw [<- h.nc]; exact hi)) q7
noncomputable def W4:List V->A5
 | [u,v]=>apS u λs=>apS v λz=>.br (pB (P18 s z)) (.leaf (bV true,[])) .fail
 | _=>.fail
theorem Asi:Ap Tryz.prog Gl 18 W4:=Ah A2 mixed Tryz.func18 (by kernel_rfl) (by kernel_rfl) λvs v h' h=>by
 unfold W4 at h;split at h
 ·obtain ⟨s,a1,h⟩:=apS_some h
  obtain ⟨z,a2,h⟩:=apS_some h;obtain ⟨hp,h⟩:=Ac h;cases Ab h;have hp:=GO hp;have hx:=AS tb18_ok Aap (G:=Gl);have hs:=hp.sm;unfold D7 at hs;obtain ⟨h0,hs⟩:=A9 hs;obtain ⟨hX,hs⟩:=A9 hs;obtain ⟨hR,hs⟩:=A9 hs;obtain ⟨hC,hs⟩:=A9 hs;have hX:=BM hX;have hR:=BM hR;have hC:=BM hC;have hs:=λi hi=>BM (A8.1 hs i hi);refine ⟨[EC s,EC s],cxA Gl tb18 Aap,_,λS w cs hq=>?_,rfl,hx.1,hx.2,DW.ok (.r 6 (eN (eI s.arch)) <| .r 6 (eN (eI s.tt)) <| .r 5 (eN (eI s.kk)) <| .r 2 (eL s.ne) <| .k h0 <| .r 2 (eN (eI s.kk)) <| .r 8 (eN (W2 s.ne s.E)) <| .r 8 (eN (eI (ofNat s.nx))) <| .r 8 (eN (eI (ofNat s.nr))) <| .k (eN (eI (ofNat s.nc))) <| .a (r18 hX) <| .a (AoX hR) <| .a (AoW hC hs) <| .l) (by kernel_rfl),Am.refl _⟩
  obtain ⟨c,l,rfl,q1,c2,l2,rfl,q2,q3⟩:=hq;exact ⟨c,_,rfl,a1 S w c q1,c2,_,rfl,AfX hp (a2 S w c2 q2),q3⟩
 ·cases h
def tL (s:Sh7) (i k:Nat):Nat:=bif Nat.blt k i then (s.C k).1 else 0
def tM (s:Sh7) (i k:Nat):Nat->V:=bif Nat.blt k i then Bn 0 (s.C k).1 Aa (λq=>iV ((s.C k).2 q)) else λ_=>.und
section
variable (s:Sh7)
def T8 (c:Int) (n:Nat) (get:Nat->V) (live:Nat->Bool) (len:Nat->Nat) (mem:Nat->Nat->V):St:=⟨jsV 52 0 Aa [(1,.ptr 0 0),(2,.ptr 1 0),(3,.ptr 2 0),(4,iV c)],[cl7 s,.cells [iV 0,.nilS,.nilS,iV 0,iV 0,.nilS,.nilS],.cells [iV s.arch,.ref 3,.ref 4,iV s.tt,iV s.kk,.ref 5,.jref 6],.row 76 6 (AE 0 s.ne) (Bn 0 s.ne Aa (λi=>eV (s.E i))),.row 74 5 (AE 0 s.nx) (Bn 0 s.nx Aa (λi=>evV (s.X i))),.row 3 1 (AE 0 s.nr) (Bn 0 s.nr Aa (λi=>iV (s.R i))),.jag ⟨24,1,n,get,0,3,1,live,len,mem,none⟩]⟩
def S8 (i:Nat):St:=T8 s (ofNat i) i Aa (λ_=>true) (tL s i) (tM s i)
def x8:Ex×St:=(.ex 0,⟨jsV 52 0 Aa [(2,.ptr 1 0),(3,.ptr 2 0)],[cl7 s,.cells [iV 0,.nilS,.nilS,iV 0,iV 0,.nilS,.nilS],.cells [iV s.arch,.ref 3,.ref 4,iV s.tt,iV s.kk,.ref 5,.jref 6],.row 76 6 (AE 0 s.ne) (Bn 0 s.ne Aa (λi=>eV (s.E i))),.row 74 5 (AE 0 s.nx) (Bn 0 s.nx Aa (λi=>evV (s.X i))),.row 3 1 (AE 0 s.nr) (Bn 0 s.nr Aa (λi=>iV (s.R i))),.jag ⟨24,1,s.nc,λ_=>.und,0,3,1,λ_=>true,tL s s.nc,tM s s.nc,none⟩]⟩)
def twV:V:=.agg [iV s.arch,.ref 0,.ref 1,iV s.tt,iV s.kk,.ref 2,.jref 3]
def twH:List Blk:=[.row 76 6 s.ne (λi=>eV (s.E i)),.row 74 5 s.nx (λi=>evV (s.X i)),.row 3 1 s.nr (λi=>iV (s.R i)),.jag ⟨24,1,s.nc,λ_=>.und,0,3,1,λ_=>true,λu=>(s.C u).1,λu k=>iV ((s.C u).2 k),none⟩]
def twS:Bool:=Al (Bs 0 s.ne 40) (Al (Bs 0 s.nx 40) (Al (Bs 0 s.nr 8) (Al (Bs 0 s.nc 24) (AV s.nc λi=>Bs 0 (s.C i).1 8))))
def twC:A5:=.br (twS s) (.leaf (twV s,twH s)) .fail
end
theorem NF {n i:Nat} {gx g:Nat->V} (h:i<n):Bn 0 n gx g i=g i:=by
 unfold Bn;split
 ·have:i=0:=by omega
  subst this;rw [Br];rfl
 ·rw [Gk]
  rw [show Nat.blt i 0=false from by
   cases hb:Nat.blt i 0 with
   | false=>rfl
   | true=>have:=Nat.le_of_ble_eq_true hb; omega]
  rfl
theorem Acl (b:Nat):AD b (λ_=>V.und) .und=λ_=>.und:=by
 funext k;rw [Br];cases Nat.beq k b <;> rfl
theorem AfQ (s:Sh7) (i:Nat):Dm (tL s i) i (AE 0 (s.C i).1)=tL s (i+1):=by
 funext k;unfold Dm tL;rw [ID,BN,show AE 0 (s.C i).1=(s.C i).1 from Nat.zero_add _];cases hk:Nat.beq k i with
 | true =>rw [Nat.eq_of_beq_eq_true hk,show Nat.blt i (i+1)=true from Nat.ble_eq_true_of_le (Nat.le_refl _)];rfl
 | false =>
  have:=Nat.ne_of_beq_eq_false hk;rw [show Nat.blt k (i+1)=Nat.blt k i from by
   cases hb:Nat.blt k i with
   | true=>have:=Nat.le_of_ble_eq_true hb; exact Nat.ble_eq_true_of_le (by omega)
   | false =>
    cases hc:Nat.blt k (i+1) with
    | false=>rfl
    | true =>have h1:=Nat.le_of_ble_eq_true hc;have h2:Nat.blt k i=true:=Nat.ble_eq_true_of_le (by omega);rw [hb] at h2;cases h2]
  rfl
theorem AfP (s:Sh7) (i:Nat):Dn (tM s i) i (Bn 0 (s.C i).1 Aa (λq=>iV ((s.C i).2 q)))=tM s (i+1):=by
 funext k j;unfold Dn tM;rw [Fi,BN];cases hk:Nat.beq k i with
 | true =>rw [Nat.eq_of_beq_eq_true hk,show Nat.blt i (i+1)=true from Nat.ble_eq_true_of_le (Nat.le_refl _)];rfl
 | false =>
  have:=Nat.ne_of_beq_eq_false hk;rw [show Nat.blt k (i+1)=Nat.blt k i from by
   cases hb:Nat.blt k i with
   | true=>have:=Nat.le_of_ble_eq_true hb; exact Nat.ble_eq_true_of_le (by omega)
   | false =>
    cases hc:Nat.blt k (i+1) with
    | false=>rfl
    | true =>have h1:=Nat.le_of_ble_eq_true hc;have h2:Nat.blt k i=true:=Nat.ble_eq_true_of_le (by omega);rw [hb] at h2;cases h2]
  rfl
def lp8:Lp:=⟨bmK 52 0 [1,2,3,4],7,bmK 52 0 [2,3],7,4611686018427387905⟩
def ls8:List (Nat×Lp×List (Nat×(Nat->V))):=[(0,lp8,[])]
noncomputable def B8 (L:LT):St->T (Ex×St):=λst=>AA tab ⟨Aw tb0,L,Gl⟩ (As Tryz.f8 0) 0 st
theorem ap8 {n i:Nat} (hn:Bs 0 n 24=true) (hi:i<n):Bs i 1 24=true:=by
 have:=of_decide_eq_true hn;exact decide_eq_true (by omega)
theorem lf8 (s:Sh7) {i:Nat} (hi:i<s.nc) (hn:Bs 0 s.nc 24=true):(Ex.nm,T8 s (wr .i64 (Ai (ofNat i) 1)) (AE i 1) (AD i Aa .und) (C2 (λ_=>true) i true) (Dm (tL s i) i (AE 0 (s.C i).1)) (Dn (tM s i) i (Bn 0 (s.C i).1 Aa (λq=>iV ((s.C i).2 q)))))=(Ex.nm,S8 s (i+1)):=by
 have hn:=of_decide_eq_true hn;unfold S8;rw [D6 (by omega),Acl,AfQ,AfP,show C2 (λ_=>true) i true=λ_=>true from by
  funext k;unfold C2;rw [ID];cases BN k i <;> rfl]
 rfl
theorem r8 (s:Sh7) (hn:Bs 0 s.nc 24=true) (hc:∀ i,i<s.nc->Bs 0 (s.C i).1 8=true):(Av (B8 (Go.Sy.askL ls8)) lp8 4611686018427387905 (S8 s 0)).sem=some (x8 s) :=
 Bv (S:=S8 s) (m:=s.nc) (show (Ex.ex 0) ≠ .nm from nofun) (λi hi=>DW.rd (.k (ofNat_lt hi) <| .k (Ad hi) <| .k (hc i hi) <| .k eT <| .k (ap8 hn hi) <| .e (lf8 s hi hn)) (by kernel_rfl)) (DW.rd (.k (DY s.nc) .l) (by kernel_rfl)) (by have:=of_decide_eq_true hn; omega)
theorem p8d:Ap Tryz.prog Gl 8 (shT twC):=WL Tryz.func8 (by kernel_rfl) (by kernel_rfl) (Γ:=λ_=>cxA Gl tb0 ls8) (λ_=>rfl) (λ_=>AS Ca ls8) λs v h' h=>by
 obtain ⟨hp,h⟩:=Ac h;cases Ab h;unfold twS at hp;obtain ⟨h1,hp⟩:=A9 hp;obtain ⟨h2,hp⟩:=A9 hp;obtain ⟨h3,hp⟩:=A9 hp;obtain ⟨h4,hp⟩:=A9 hp;have hc:=A8.1 hp;refine ⟨[.row 76 6 s.ne (Bn 0 s.ne Aa (λi=>eV (s.E i))),.row 74 5 s.nx (Bn 0 s.nx Aa (λi=>evV (s.X i))),.row 3 1 s.nr (Bn 0 s.nr Aa (λi=>iV (s.R i))),.jag ⟨24,1,s.nc,λ_=>.und,0,3,1,λ_=>true,tL s s.nc,tM s s.nc,none⟩],
  DW.ok (.k h1 <| .k h2 <| .k h3 <| .a (r8 s h4 hc) <| .e (show (twV s,[.row 76 6 (AE 0 s.ne) (Bn 0 s.ne Aa (λi=>eV (s.E i))),.row 74 5 (AE 0 s.nx) (Bn 0 s.nx Aa (λi=>evV (s.X i))),.row 3 1 (AE 0 s.nr) (Bn 0 s.nr Aa (λi=>iV (s.R i))),.jag ⟨24,1,s.nc,λ_=>.und,0,3,1,λ_=>true,tL s s.nc,tM s s.nc,none⟩])=(twV s,_) from by
   unfold AE;rw [Nat.zero_add,Nat.zero_add,Nat.zero_add])) (by kernel_rfl),?_⟩
 refine .cons (λj hj=>(NF (g:=λi=>eV (s.E i)) hj).symm) <| .cons (λj hj=>(NF (g:=λi=>evV (s.X i)) hj).symm) <| .cons (λj hj=>(NF (g:=λi=>iV (s.R i)) hj).symm) <| .consB ?_ (Am.refl [])
 have hlt:∀ k,k<s.nc->Nat.blt k s.nc=true:=λk hk=>Nat.ble_eq_true_of_le hk;refine .jag (λ_ _=>.inl rfl) (λ_ _=>rfl) (λk hk=>?_) λk hk q hq=>?_
 ·show (s.C k).1=tL s s.nc k
  unfold tL;rw [hlt k hk];rfl
 ·replace hq:q<tL s s.nc k:=hq
  unfold tL at hq;rw [hlt k hk] at hq;show iV ((s.C k).2 q)=tM s s.nc k q;unfold tM;rw [hlt k hk];exact (NF (g:=λq=>iV ((s.C k).2 q)) (show q<(s.C k).1 from hq)).symm
def spI:Ini5:=⟨-9,0,[115,112,111,105,108,116],[],0⟩
def spC (u:Nat):In8:=⟨wr .i64 (Bz (-5) (ofNat u)),0,0,0,0,[],[115,112,111,105,108,116],0⟩
structure A23 where
 a0:Int
 a1:List UInt8
 a2:List UInt8
 a3:Int
 a4:Int
 a5:Int
 a6:Int
 a7:List UInt8
 a8:Int
 ks:Nat
 kn:Nat
 kg:Nat->V
def tsV (a:A23) (iv cv:V):V:=.agg [iV a.a0,.str a.a1,.str a.a2,iv,cv,iV a.a3,iV a.a4,iV a.a5,iV a.a6,.str a.a7,iV a.a8,.sl a.ks a.kn a.kg]
section
variable (a:A23) (m n:Nat) (ln:Nat->Nat)
def c23:Blk:=.cells [iV a.a0,.str a.a1,.str a.a2,.sl 5 m (λ_=>i5V spI),.sl 1 n (λu=>.sl 8 (ln u) (λ_=>i8V (spC u))),iV a.a3,iV a.a4,iV a.a5,iV a.a6,.str a.a7,iV a.a8,.sl a.ks a.kn a.kg]
def AeR (u:Nat) (c:Int):St:=⟨jsV 49 0 Aa [(1,.ptr 0 0),(3,nV u),(4,iV c)],[c23 a m n ln]⟩
def T23 (c:Int):St:=⟨jsV 49 0 Aa [(1,.ptr 0 0),(3,iV c)],[c23 a m n ln]⟩
def AeQ (c:Int):St:=⟨jsV 49 0 Aa [(1,.ptr 0 0),(5,iV c)],[c23 a m n ln]⟩
end
def AcW:Lp:=⟨bmK 49 0 [1,3,4],1,bmK 49 0 [1,3],1,4611686018427387905⟩
def ApP:Lp:=⟨bmK 49 0 [1,3],1,bmK 49 0 [1],1,4611686018427387905⟩
def AcV:Lp:=⟨bmK 49 0 [1,5],1,bmK 49 0 [],0,4611686018427387905⟩
def AcH:List (Nat×Lp×List (Nat×(Nat->V))):=[(0,ApP,[]),(2,AcW,[]),(4,AcV,[])]
noncomputable def B23 (id:Nat) (L:LT):St->T (Ex×St):=λst=>AA tab ⟨Aw tb0,L,Gl⟩ (As Tryz.f23 id) id st
section
variable (a:A23) (m:Nat) {n:Nat} {ln:Nat->Nat}
theorem AoU {u:Nat} (hu:u<n) (hn:ln u <= 4611686018427387904):(Av (B23 2 (Go.Sy.askL AcH)) AcW 4611686018427387905 (AeR a m n ln u 0)).sem=some (.ex 2,T23 a m n ln (ofNat u)) :=
 Bv (S:=λi=>AeR a m n ln u (ofNat i)) (m:=ln u) (show (Ex.ex 2) ≠ .nm from nofun) (λi hi=>DW.rd (.k (Ad hu) <| .k (ofNat_lt hi) <| .k (Ad hu) <| .k (Ad hi) <| .k (eN (eq8 (spC u))) <| .e (nm1 (f:=AeR a m n ln u) (D6 (by omega)))) (by kernel_rfl)) (DW.rd (.k (Ad hu) <| .k (DY (ln u)) .l) (by kernel_rfl)) (by omega)
theorem r23 (hn:n <= 4611686018427387904) (hs:∀ i,i<n->ln i <= 4611686018427387904):(Av (B23 0 (Go.Sy.askL AcH)) ApP 4611686018427387905 (T23 a m n ln 0)).sem=some (.ex 0,⟨jsV 49 0 Aa [(1,.ptr 0 0)],[c23 a m n ln]⟩) :=
 Bv (S:=λi=>T23 a m n ln (ofNat i)) (m:=n) (show (Ex.ex 0) ≠ .nm from nofun) (λi hi=>DW.rd (.k (ofNat_lt hi) <| .a (AoU a m hi (hs i hi)) <| .e (nm1 (f:=T23 a m n ln) (D6 (by omega)))) (by kernel_rfl)) (DW.rd (.k (DY n) .l) (by kernel_rfl)) (by omega)
variable (n) (ln) {m}
theorem AoT (hm:m <= 4611686018427387904):(Av (B23 4 (Go.Sy.askL AcH)) AcV 4611686018427387905 (AeQ a m n ln 0)).sem=some (.ex 4,⟨jsV 49 0 Aa [],[]⟩) :=
 Bv (S:=λi=>AeQ a m n ln (ofNat i)) (m:=m) (show (Ex.ex 4) ≠ .nm from nofun) (λi hi=>DW.rd (.k (ofNat_lt hi) <| .k (Ad hi) <| .k (eN (eq5 spI)) <| .e (nm1 (f:=AeQ a m n ln) (D6 (by omega)))) (by kernel_rfl)) (DW.rd (.k (DY m) .l) (by kernel_rfl)) (by omega)
end
noncomputable def AeB:List V->A5
 | [.agg [.val (.int .i64 a0),.str a1,.str a2,iv,cv,.val (.int .i64 a3),.val (.int .i64 a4),.val (.int .i64 a5),.val (.int .i64 a6),.str a7,.val (.int .i64 a8),.sl ks kn kg]]=>apG AaM iv λm f=>apG (AaL Aey) cv λn C =>
  .br (pB (m <= 4611686018427387904∧n <= 4611686018427387904∧(∀ i,i<m->f i=spI)∧∀ i,i<n->(C i).1 <= 4611686018427387904∧∀ k,k<(C i).1->(C i).2 k=spC i)) (.leaf (bV true,[])) .fail
 | _=>.fail
theorem Ase:Ap Tryz.prog Gl 23 AeB:=Ah A2 mixed Tryz.func23 (by kernel_rfl) (by kernel_rfl) λvs v h' h=>by
 unfold AeB at h;split at h
 ·rename_i a0 a1 a2 iv cv a3 a4 a5 a6 a7 a8 ks kn kg
  obtain ⟨m,f,e1,h⟩:=B0 h;obtain ⟨n,C,e2,h⟩:=B0 h;obtain ⟨hp,h⟩:=Ac h;cases Ab h;obtain ⟨hm,hn,hf,hC⟩:=GO hp;have hx:=AS Ca AcH (G:=Gl);refine ⟨[tsV ⟨a0,a1,a2,a3,a4,a5,a6,a7,a8,ks,kn,kg⟩ (.sl 5 m (λ_=>i5V spI)) (.sl 1 n (λu=>.sl 8 (C u).1 (λ_=>i8V (spC u))))],cxA Gl tb0 AcH,_,λS w cs hq=>?_,rfl,hx.1,hx.2,
   DW.ok (.a (r23 ⟨a0,a1,a2,a3,a4,a5,a6,a7,a8,ks,kn,kg⟩ m (ln:=λu=>(C u).1) hn λi hi=>(hC i hi).1) <| .a (AoT ⟨a0,a1,a2,a3,a4,a5,a6,a7,a8,ks,kn,kg⟩ n (λu=>(C u).1) hm) <| .l) (by kernel_rfl),Am.refl _⟩
  obtain ⟨c,l,rfl,⟨ca,rfl,c0,l0,rfl,q0,c1,l1,rfl,q1,c2,l2,rfl,q2,c3,l3,rfl,q3,c4,l4,rfl,q4,q5⟩,q6⟩:=hq;exact ⟨_,l,rfl,⟨_,rfl,c0,_,rfl,q0,c1,_,rfl,q1,c2,_,rfl,q2,c3,_,rfl,Mt (c:=AaM) hf (e1 S w c3 q3),c4,_,rfl,SE (c:=Aey) (f:=C) (g:=λu=>((C u).1,λ_=>spC u)) (λi hi=>⟨rfl,λk hk=>(hC i hi).2 k hk⟩) (e2 S w c4 q4),q5⟩,q6⟩
 ·cases h
end Go.Proofs.YtkbafjceglhjhaaGreatDoor.Er
namespace Go.Proofs.YtkbafjceglhjhaaGreatDoor.Er
open Go.Sy Go Go.Proofs.YtkbafjceglhjhaaGreatDoor.Ed Go.Proofs.YtkbafjceglhjhaaGreatDoor.Sh
set_option maxRecDepth 100000
set_option maxHeartbeats 1000000
def okA (s:Sh7):Bool:=ieq (CQ s) 0
def ntA (s:Sh7):Nat:=bif okA s then toN s.tt else 0
def KA (s:Sh7) (u:Nat):List In8:=bif okA s then cdL s s.nx u else []
def LA (s:Sh7):List Nt:=bif okA s then inL s (toN s.tt) else []
def g3S (s:Sh7):Bool:=Al (Ct s.ne) (D7 s)
def Aax (s:Sh7):Blk:=.jag ⟨63,1,ntA s,λ_=>.nilS,0,72,8,λ_=>true,λu=>BI (KA s u),λu=>WT (KA s u),none⟩
def AmC (s:Sh7):A5:=.br (g3S s) (.leaf (.tup [.jref 0,iV (CQ s)],[Aax s])) .fail
def AdD (s:Sh7):A5:=.br (g3S s) (.leaf (.tup [.ref 0,iV (CQ s)],[.row 68 5 (Dw (LA s)) (Hm (LA s))])) .fail
theorem Tf {s:Sh7} (h:g3S s=true):Ct s.ne=true∧Al (Aq s.ne) (Al (Aq s.nx) (Al (Aq s.nr) (Al (Aq s.nc) (AV s.nc (λi=>Aq (s.C i).1)))))=true:=A9 h
theorem AhL {s:Sh7} {v:V} {h':List Blk} (h:(AmC s).sem=some (v,h')):∃ h'',(V9 s).sem=some (v,h'')∧Am h'' h':=by
 obtain ⟨hg,h⟩:=Ac h;cases Ab h;obtain ⟨h1,h2⟩:=Tf hg;unfold V9 codE Aax ntA KA okA;rw [h1,h2];cases hw:ieq (CQ s) 0 with
 | true =>rw [Ah5 (good hw),BP hw];exact ⟨_,rfl,Am.refl _⟩
 | false=>exact ⟨_,rfl,.consB (.jag (λk hk=>absurd hk (Nat.not_lt_zero k)) (λ_ _=>rfl) (λ_ _=>rfl) λk hk=>absurd hk (Nat.not_lt_zero k)) (Am.refl [])⟩
theorem YK {s:Sh7} {v:V} {h':List Blk} (h:(AdD s).sem=some (v,h')):∃ h'',(UZ s).sem=some (v,h'')∧Am h'' h':=by
 obtain ⟨hg,h⟩:=Ac h;cases Ab h;obtain ⟨h1,h2⟩:=Tf hg;unfold UZ LA okA;rw [h1,h2];cases hw:ieq (CQ s) 0 with
 | true =>rw [Cy (good hw),BP hw];exact ⟨_,rfl,Am.refl _⟩
 | false=>exact ⟨_,rfl,.cons (λj hj=>absurd hj (Nat.not_lt_zero j)) (Am.refl [])⟩
theorem NR {α β:Type} {c:Cod α} {v:V} {F F':Nat->(Nat->α)->T β} {r:β} {Q:β->Prop} (H:∀ n f,(F n f).sem=some r->∃ r',(F' n f).sem=some r'∧Q r') (h:(apG c v F).sem=some r):∃ r',(apG c v F').sem=some r'∧Q r':=by
 unfold apG at h ⊢;split at h
 ·obtain ⟨h1,h2⟩:=Ac h
  obtain ⟨r',e1,e2⟩:=H _ _ h2;exact ⟨r',by rw [h1]; exact e1,e2⟩
 ·cases h
theorem TM {β:Type} {v:V} {F F':Sh7->T β} {r:β} {Q:β->Prop} (H:∀ s,(F s).sem=some r->∃ r',(F' s).sem=some r'∧Q r') (h:(Sh.apS v F).sem=some r):∃ r',(Sh.apS v F').sem=some r'∧Q r':=by
 unfold Sh.apS at h ⊢;split at h
 ·exact NR (λ_ _ h=>NR (λ_ _ h=>NR (λ_ _ h=>NR (λ_ _ h=>H _ h) h) h) h) h
 ·cases h
theorem Sa {k:Nat} {C D:Sh7->A5} (h:Ap Tryz.prog Gl k (shT C)) (hD:∀ s v h',(D s).sem=some (v,h')->∃ h'',(C s).sem=some (v,h'')∧Am h'' h'):Ap Tryz.prog Gl k (shT D) :=
 Mm h λvs v h' hv=>by
  unfold shT at hv ⊢;split at hv
  ·obtain ⟨⟨v',h''⟩,e1,rfl,e2⟩:=TM (Q:=λr=>r.1=v∧Am r.2 h') (λs hs=>by
    obtain ⟨h'',q1,q2⟩:=hD s v h' hs;exact ⟨(v,h''),q1,rfl,q2⟩) hv
   exact ⟨h'',e1,e2⟩
  ·cases hv
theorem p9A:Ap Tryz.prog Gl 9 (shT AmC):=Sa p9 λs v h'=>AhL
theorem Asr:Ap Tryz.prog Gl 13 (shT AdD):=Sa p13 λs v h'=>YK
theorem Asq:Ap Tryz.prog Gl 14 (shT AdD):=Sa Asp λs v h'=>YK
theorem Apy (s:Sh7):ntA s <= 16:=by
 unfold ntA okA;cases hw:ieq (CQ s) 0 with
 | true=>exact (Bw (Cy (good hw))).2.1
 | false=>exact Nat.zero_le _
theorem Ati (s:Sh7) (u:Nat):BI (KA s u) <= 80:=by
 unfold KA okA;cases hw:ieq (CQ s) 0 with
 | true =>have:=ME s u s.nx;have:=(good hw).hi;show BI (cdL s s.nx u) <= 80;omega
 | false=>exact Nat.zero_le _
theorem AqU (s:Sh7):Dw (LA s) <= 256:=by
 unfold LA okA;cases hw:ieq (CQ s) 0 with
 | true =>have h1:=SZ s (toN s.tt);have h2:=(Bw (Cy (good hw)));have h3:toN s.tt * s.nx <= 16 * 16:=Nat.mul_le_mul h2.2.1 h2.1;show (inL s (toN s.tt)).length <= 256;omega
 | false=>exact Nat.zero_le _
def shL (s:Sh7):V:=.agg [iV s.arch,.sl 6 s.ne (λi=>eV (s.E i)),.sl 5 s.nx (λi=>evV (s.X i)),iV s.tt,iV s.kk,.sl 1 s.nr (λi=>iV (s.R i)),.sl 1 s.nc (λu=>.sl 1 (s.C u).1 (λi=>iV ((s.C u).2 i)))]
def twL (s:Sh7):V:=.agg [iV s.arch,.ref 1,.ref 2,iV s.tt,iV s.kk,.ref 3,.jref 4]
section
def spM (ln:Nat->Nat) (K:Nat->Nat->In8) (u i w k:Nat):In8:=bif (Nat.blt w u && Nat.blt k (ln w)) || (Nat.blt k i && Nat.beq w u) then spC w else K w k
def spN (f:Nat->Ini5) (i k:Nat):Ini5:=bif Nat.blt k i then spI else f k
def G19 (i:Nat) (g:Nat->V) (c:V):Nat->Nat->V
 | 0=>g
 | j+1=>AD (i+j) (G19 i g c j) c
end
noncomputable def c44:FuncId->List V->St->T (V×Res):=Ji [(44,M3 tab (cxC Gl []) Tryz.f44)] (Aw [])
theorem AmF:Bu Tryz.prog ⟨c44,Gl⟩:=F6 mixed (.cons rfl A2 (Jg (P:=Tryz.prog) .nil).1 (Jg (P:=Tryz.prog) .nil).2 Tryz.func44 (by kernel_rfl) (by kernel_rfl) .nil) (Ek (Γ:=⟨Aw [],Gl⟩) rfl .nil)
section
variable (s:Sh7) {n:Nat} {ln:Nat->Nat} (K:Nat->Nat->In8) (m:Nat) (f:Nat->Ini5)
theorem HY (i:Nat):Nat.blt i (i+1)=true:=Nat.ble_eq_true_of_le (Nat.le_refl _)
theorem AhR (i:Nat):Nat.blt i i=false:=by
 cases hb:Nat.blt i i with
 | false=>rfl
 | true=>have:=Nat.le_of_ble_eq_true hb; omega
theorem Hx {k i:Nat} (h:k ≠ i):Nat.beq k i=false:=by
 cases hb:Nat.beq k i with
 | false=>rfl
 | true=>exact absurd (Nat.eq_of_beq_eq_true hb) h
theorem HZ {k i:Nat} (h:k ≠ i):Nat.blt k (i+1)=Nat.blt k i:=by
 cases hb:Nat.blt k i with
 | true=>have:=Nat.le_of_ble_eq_true hb; exact Nat.ble_eq_true_of_le (by omega)
 | false =>
  cases hc:Nat.blt k (i+1) with
  | false=>rfl
  | true =>have h1:=Nat.le_of_ble_eq_true hc;have h2:Nat.blt k i=true:=Nat.ble_eq_true_of_le (by omega);rw [hb] at h2;cases h2
theorem AfV (ln:Nat->Nat) (u i:Nat):Dn (λw k=>i8V (spM ln K u i w k)) u (BD (λk=>i8V (spM ln K u i u k)) i (i8V (spC u)))=λw k=>i8V (spM ln K u (i+1) w k):=by
 funext w k;unfold Dn;rw [Fi,BN,DO];unfold spM;by_cases hw:w=u
 ·subst hw
  rw [show Nat.beq w w=true from Nat.beq_refl w];by_cases hk:k=i
  ·subst hk
   rw [show Nat.beq k k=true from Nat.beq_refl k,HY];simp
  ·rw [Hx hk,HZ hk]
   rfl
 ·rw [Hx hw]
  show i8V (bif Nat.blt w u && Nat.blt k (ln w) || Nat.blt k i && Nat.beq w u then spC w else K w k)=_
  rw [Hx hw,Bool.and_false,Bool.and_false]
theorem AmU (ln:Nat->Nat) (u:Nat):spM ln K u (ln u)=spM ln K (u+1) 0:=by
 funext w k;unfold spM;rw [show Nat.blt k 0=false from rfl,bFA,Bool.or_false];by_cases hw:w=u
 ·subst hw
  rw [show Nat.beq w w=true from Nat.beq_refl w,HY,AhR,bTA,bFA,bFO,Bool.and_true]
 ·rw [Hx hw,HZ hw,Bool.and_false,Bool.or_false]
theorem AfU (i:Nat):BD (λk=>i5V (spN f i k)) i (i5V spI)=λk=>i5V (spN f (i+1) k):=by
 funext k;rw [DO];unfold spN;by_cases hk:k=i
 ·subst hk
  rw [show Nat.beq k k=true from Nat.beq_refl k,HY];rfl
 ·rw [Hx hk,HZ hk]
  rfl
end
end Go.Proofs.YtkbafjceglhjhaaGreatDoor.Er
