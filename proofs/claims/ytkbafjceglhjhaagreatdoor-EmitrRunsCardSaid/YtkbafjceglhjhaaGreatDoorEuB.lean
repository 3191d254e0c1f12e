/-
  Layer 10: riscv's Links, ready; slices.Clone of registers. Conditions: LkOK.
-/
import Derived.Test.YtkbafjceglhjhaaGreatDoorEuA
namespace Go.Proofs.YtkbafjceglhjhaaGreatDoor.Er
open Go.Sy Go Go.Proofs.YtkbafjceglhjhaaGreatDoor.Ed Go.Proofs.YtkbafjceglhjhaaGreatDoor.Sh
open Int (ofNat)
set_option maxRecDepth 100000
set_option maxHeartbeats 1000000
theorem Aq2 (c:Nat):ilt (ofNat c) 0=false:=decide_eq_false (by show ¬ ((c:Int)<0); omega)
theorem AqC {c n:Nat} (h:c<n):ile (ofNat n) (ofNat c)=false:=decide_eq_false (by show ¬ ((n:Int) <= (c:Int)); omega)
def hqB (x y:In8):Bool:=Ak (ieq x.op 12) (seq x.lab y.lab)
def hasB (n:Nat) (f:Nat->In8) (y:In8):Bool:=Ak (OK 0 n) (hqB (f 0) y)
def AlF:List V->AA
 | [v,.pp w]=>.br (JX v) (.br (JX w) (.br (hqB (Jj v) (Jj w)) (.leaf (bV true,[])) .fail) .fail) .fail
 | _=>.fail
theorem p87:As Tryz.prog Gl 87 AlF:=by
 refine Am A0 mixed Tryz.func87 (by kernel_rfl) (by kernel_rfl) λvs v h' h=>?_;unfold AlF at h;split at h
 ·rename_i u w
  obtain ⟨g1,h⟩:=Ad h;obtain ⟨g2,h⟩:=Ad h;obtain ⟨g3,h⟩:=Ad h;cases Aa h;have hx:=Bd C5 [] (G:=Gl);refine ⟨_,cxA Gl tb0 [],_,Bw.refl _,rfl,hx.1,hx.2,?_,Aw.refl _⟩;rw [EJ g1,EJ g2];generalize Jj u=x at g3;generalize Jj w=y at g3;obtain ⟨h1,h2⟩:=AI g3;exact DW.ok (.r 6 h1 <| .e (congrArg (λb=>(bV b,([]:List Blk))) h2)) (by kernel_rfl)
 ·cases h
def ixT (o:V):List V->AA
 | [v,.fn 87 [.pp w]]=>apG AdI v λn f=>.br (JX w) (.br (hasB n f (Jj w)) (.leaf (o,[])) .fail) .fail
 | _=>.fail
noncomputable def AaV:AE:=(87,AlF)::[]
theorem AaU:Ar Tryz.prog Gl AaV:=.cons p87 .nil
def AhZ:Lp:=⟨bmK 19 0 [0,1,6,7,8],0,bmK 19 0 [4],0,4611686018427387905⟩
def Acf:List (Nat×Lp×List (Nat×(Nat->V))):=[(0,AhZ,[])]
noncomputable def Arj (id:Nat) (L:LT):St->T (Ex×St):=λst=>AK tab ⟨A2 AaV,L,Gl⟩ (A3 Tryz.f130 id) id st
theorem Aqh {n:Nat} {f:Nat->In8} {y:In8} (h0:ilt 0 (ofNat n)=true) (h1:hqB (f 0) y=true):(A4 (Arj 0 (Go.Sy.askL Acf)) AhZ 4611686018427387905 ⟨jsV 19 0 Ab [(0,.sl 8 n (λi=>i8V (f i))),(1,.fn 87 [.pp (i8V y)]),(6,.sl 8 n (λi=>i8V (f i))),(7,nV n),(8,iV 0)],[]⟩).sem=some (.rt,⟨jsV 19 0 Ab [(4,iV 0)],[]⟩):=by
 rw [Ah (t:=some (.rt,⟨jsV 19 0 Ab [(4,iV 0)],[]⟩)) (DW.rd (.k h0 <| .k (eA (show ile 0 0=true from rfl) h0) <| .r 2 eT <| .k h1 <| .k eT <| .l) (by kernel_rfl))]
 rfl
theorem Aqr:As Tryz.prog Gl 130 (ixT (iV 0)):=by
 refine Am A0 mixed Tryz.func130 (by kernel_rfl) (by kernel_rfl) λvs v h' h=>?_;unfold ixT at h;split at h
 ·rename_i u w
  obtain ⟨n,f,ha,h⟩:=Bv h;obtain ⟨g2,h⟩:=Ad h;obtain ⟨g3,h⟩:=Ad h;cases Aa h;obtain ⟨h0,h1⟩:=AI g3;have h0:ilt 0 (ofNat n)=true:=decide_eq_true (by have:0<n:=Nat.le_of_ble_eq_true h0; show (0:Int)<(n:Int); omega);have hx:=Bd AaU Acf (G:=Gl);refine ⟨[.sl 8 n (λi=>i8V (f i)),.fn 87 [.pp w]],cxA Gl AaV Acf,_,λS w cs hq=>by
   obtain ⟨c,l,rfl,q1,c2,l2,rfl,q2,q3⟩:=hq;exact ⟨c,_,rfl,ha S w c q1,c2,_,rfl,q2,q3⟩,rfl,hx.1,hx.2,?_,Aw.refl _⟩
  rw [EJ g2];generalize Jj w=y at h1;exact DW.ok (.a (Aqh h0 h1) <| .l) (by kernel_rfl)
 ·cases h
noncomputable def tb86:AE:=(130,ixT (iV 0))::[]
theorem tb86_ok:Ar Tryz.prog Gl tb86:=.cons Aqr .nil
theorem p86:As Tryz.prog Gl 86 (ixT (bV true)):=by
 refine Am A0 mixed Tryz.func86 (by kernel_rfl) (by kernel_rfl) λvs v h' h=>?_;unfold ixT at h;split at h
 ·rename_i u w
  obtain ⟨n,f,ha,h⟩:=Bv h;obtain ⟨g2,h⟩:=Ad h;obtain ⟨h3,h⟩:=Ad h;cases Aa h;have hx:=Bd tb86_ok [] (G:=Gl);refine ⟨[.sl 8 n (λi=>i8V (f i)),.fn 87 [.pp w]],cxA Gl tb86 [],_,λS w cs hq=>by
   obtain ⟨c,l,rfl,q1,c2,l2,rfl,q2,q3⟩:=hq;exact ⟨c,_,rfl,ha S w c q1,c2,_,rfl,q2,q3⟩,rfl,hx.1,hx.2,?_,Aw.refl _⟩
  rw [EJ g2];generalize Jj w=y at h3;exact DW.ok (.k (eL n) <| .k eT <| .k h3 <| .l) (by kernel_rfl)
 ·cases h
def I9 (x:Vl):Bool:=bif seq x.lc [] then Ak (ile (-2147483648) x.n) (ile x.n 2147483647) else Ak (ieq x.n 0) (nm2 x.lc)
def mayT (b:Bool):List V->AA
 | [v]=>.br (Af0 v) (.br (I9 (Aai v)) (.leaf (bV b,[])) .fail) .fail
 | _=>.fail
noncomputable def AmI:AE:=(132,Af3)::[]
theorem Ae5:Ar Tryz.prog Gl AmI:=.cons AnO .nil
theorem p90:As Tryz.prog Gl 90 (mayT true):=by
 refine Am A0 mixed Tryz.func90 (by kernel_rfl) (by kernel_rfl) λvs v h' h=>?_;unfold mayT at h;split at h
 ·rename_i u
  obtain ⟨g1,h⟩:=Ad h;obtain ⟨g2,h⟩:=Ad h;cases Aa h;have hx:=Bd Ae5 [] (G:=Gl);refine ⟨_,cxA Gl AmI [],_,Bw.refl _,rfl,hx.1,hx.2,?_,Aw.refl _⟩;rw [Mz g1];generalize Aai u=x at g2;unfold I9 at g2;cases h0:seq x.lc [] with
  | true =>rw [h0] at g2;obtain ⟨h1,h2⟩:=AI g2;exact DW.ok (.k h0 <| .r 4 h1 <| .e (congrArg (λb=>(bV b,([]:List Blk))) h2)) (by kernel_rfl)
  | false =>rw [h0] at g2;obtain ⟨h1,h2⟩:=AI g2;exact DW.ok (.k h0 <| .r 3 h1 <| .k h2 <| .k h1 <| .l) (by kernel_rfl)
 ·cases h
noncomputable def AmJ:AE:=(90,mayT true)::[]
theorem Ae6:Ar Tryz.prog Gl AmJ:=.cons p90 .nil
theorem p89:As Tryz.prog Gl 89 (mayT false):=by
 refine Am A0 mixed Tryz.func89 (by kernel_rfl) (by kernel_rfl) λvs v h' h=>?_;unfold mayT at h;split at h
 ·rename_i u
  obtain ⟨g1,h⟩:=Ad h;obtain ⟨h2,h⟩:=Ad h;cases Aa h;have hx:=Bd Ae6 [] (G:=Gl);refine ⟨_,cxA Gl AmJ [],_,Bw.refl _,rfl,hx.1,hx.2,?_,Aw.refl _⟩;rw [Mz g1];generalize Aai u=x at h2;exact DW.ok (.k eT <| .k h2 <| .l) (by kernel_rfl)
 ·cases h
def Ap6 (n:Nat) (r:Nat->Vl):Prop:=n <= 1000∧∀ i,i<n->I9 (r i)=true
noncomputable def mnT (o:V):List V->AA
 | [v,.fn 89 []]=>apG AgM v λn r=>.br (pB (Ap6 n r)) (.leaf (o,[])) .fail
 | _=>.fail
noncomputable def AaT:AE:=(89,mayT false)::[]
theorem AaS:Ar Tryz.prog Gl AaT:=.cons p89 .nil
section
variable (n:Nat) (r:Nat->Vl)
def AlU (c:Int):St:=⟨jsV 19 0 Ab [(0,.sl 2 n (λk=>vlV (r k))),(1,.fn 89 []),(6,.sl 2 n (λk=>vlV (r k))),(7,nV n),(8,iV c)],[]⟩
def f131:Ex×St:=(.ex 0,⟨jsV 19 0 Ab [],[]⟩)
end
def AhY:Lp:=⟨bmK 19 0 [0,1,6,7,8],0,bmK 19 0 [],0,4611686018427387905⟩
def Ace:List (Nat×Lp×List (Nat×(Nat->V))):=[(0,AhY,[])]
noncomputable def Ari (id:Nat) (L:LT):St->T (Ex×St):=λst=>AK tab ⟨A2 AaT,L,Gl⟩ (A3 Tryz.f131 id) id st
theorem Aqg {n:Nat} {r:Nat->Vl} (hn:n <= 1000) (hm:∀ i,i<n->I9 (r i)=true):(A4 (Ari 0 (Go.Sy.askL Ace)) AhY 4611686018427387905 (AlU n r 0)).sem=some f131 :=
 JD (S:=λi=>AlU n r (ofNat i)) (m:=n) (show (Ex.ex 0) ≠ .nm from nofun) (λi hi=>DW.rd (.k (ofNat_lt hi) <| .k (Ae hi) <| .k eT <| .k (hm i hi) <| .k eF <| .e (nm1 (f:=AlU n r) (ApI (by omega)))) (by kernel_rfl)) (DW.rd (.k (Az (Nat.le_refl n)) .l) (by kernel_rfl)) (by omega)
theorem Aqq:As Tryz.prog Gl 131 (mnT (iV (-1))):=by
 refine Am A0 mixed Tryz.func131 (by kernel_rfl) (by kernel_rfl) λvs v h' h=>?_;unfold mnT at h;split at h
 ·obtain ⟨n,r,ha,h⟩:=Bv h
  obtain ⟨h1,h⟩:=Ad h;obtain ⟨hn,hm⟩:=Li h1;cases Aa h;have hx:=Bd AaS Ace (G:=Gl);exact ⟨[.sl 2 n (λk=>vlV (r k)),.fn 89 []],cxA Gl AaT Ace,_,λS w cs hq=>by
   obtain ⟨c,l,rfl,q1,c2,l2,rfl,q2,q3⟩:=hq;exact ⟨c,_,rfl,ha S w c q1,c2,_,rfl,q2,q3⟩,rfl,hx.1,hx.2,DW.ok (.a (Aqg hn hm) <| .l) (by kernel_rfl),Aw.refl _⟩
 ·cases h
noncomputable def tb88:AE:=(131,mnT (iV (-1)))::[]
theorem tb88_ok:Ar Tryz.prog Gl tb88:=.cons Aqq .nil
theorem p88:As Tryz.prog Gl 88 (mnT (bV false)):=by
 refine Am A0 mixed Tryz.func88 (by kernel_rfl) (by kernel_rfl) λvs v h' h=>?_;unfold mnT at h;split at h
 ·obtain ⟨n,r,ha,h⟩:=Bv h
  obtain ⟨h3,h⟩:=Ad h;cases Aa h;have hx:=Bd tb88_ok [] (G:=Gl);exact ⟨[.sl 2 n (λk=>vlV (r k)),.fn 89 []],cxA Gl tb88 [],_,λS w cs hq=>by
   obtain ⟨c,l,rfl,q1,c2,l2,rfl,q2,q3⟩:=hq;exact ⟨c,_,rfl,ha S w c q1,c2,_,rfl,q2,q3⟩,rfl,hx.1,hx.2,DW.ok (.k (eL n) <| .k h3 <| .l) (by kernel_rfl),Aw.refl _⟩
 ·cases h
structure RdOK (n:Nat) (m:Nat) (r:Nat->Vl) (z:Int):Prop where
 hm:m=32
 hz:∃ c,z=ofNat c∧c<n
 r0:r 0=⟨[],0⟩
 may:∀ i,i<32->I9 (r i)=true
noncomputable def Akg:List V->AA
 | [cv,.agg [rv,.val (.int .i64 z)]]=>apG AdI cv λn _=>apG AgM rv λm r=>.br (pB (RdOK n m r z)) (.leaf (bV true,[])) .fail
 | _=>.fail
noncomputable def AmL:AE:=(88,mnT (bV false))::[]
theorem AeF:Ar Tryz.prog Gl AmL:=.cons p88 .nil
theorem Ap0 {cv rv z:V} {n m:Nat} {f:Nat->In8} {r:Nat->Vl} (ha:∀ (S:Nat->Prop) (w:World) (c:Value),VR S w cv noK c->VR S w (.sl 8 n λi=>i8V (f i)) noK c) (hb:∀ (S:Nat->Prop) (w:World) (c:Value),VR S w rv noK c->VR S w (.sl 2 m λi=>vlV (r i)) noK c) :
  Bw [cv,.agg [rv,z]] [.sl 8 n (λi=>i8V (f i)),.agg [.sl 2 m (λk=>vlV (r k)),z]]:=λS w cs hq=>by
 obtain ⟨c,l,rfl,q1,c2,l2,rfl,q2,q3⟩:=hq;exact ⟨c,_,rfl,ha S w c q1,c2,_,rfl,VR.aggUp [] [z] (λa h=>hb S w a h) c2 q2,q3⟩
theorem p57:As Tryz.prog Gl 57 Akg:=by
 refine Am A0 mixed Tryz.func57 (by kernel_rfl) (by kernel_rfl) λvs v h' h=>?_;unfold Akg at h;split at h
 ·obtain ⟨n,f,ha,h⟩:=Bv h
  obtain ⟨m,r,hb,h⟩:=Bv h;obtain ⟨h1,h⟩:=Ad h;cases Aa h;obtain ⟨rfl,⟨c,rfl,hc⟩,h0,hm'⟩:=Li h1;have hm:Ap6 32 r:=⟨by omega,hm'⟩;have hx:=Bd AeF [] (G:=Gl);exact ⟨_,cxA Gl AmL [],_,Ap0 ha hb,rfl,hx.1,hx.2,DW.ok (.r 6 (Aq2 c) <| .r 5 (AqC hc) <| .r 3 (eN (eI 32)) <| .k (eA (show ile 0 0=true from rfl) (show ilt 0 32=true from rfl)) <| .r 4 (eN (eI 32)) <| .k (eN (eA (congrArg (λv=>seq v.lc []) h0) (eA (congrArg (λv=>ieq v.n 0) h0) eT))) <| .k (eL 32) <| .k (Ek hm) <| .l) (by kernel_rfl),Aw.refl _⟩
 ·cases h
def Wp (r:Nat->Vl):Blk:=.row 66 2 32 (λk=>vlV (r k))
def AlM:List V->AA
 | [v]=>apG AgM v λn r=>.br (BY n 32) (.leaf (.ref 0,[Wp r])) .fail
 | _=>.fail
theorem AqV (r:Nat->Vl):(V.ref 0,[Blk.row 66 2 (BC 0 32) (PW 0 Ab (λk=>vlV (r k)))])=(V.ref 0,[Wp r]):=by
 unfold Wp;rw [show PW 0 Ab (λk=>vlV (r k))=λk=>vlV (r k) from funext λi=>by rw [JS]; rfl];rfl
theorem p58:As Tryz.prog Gl 58 AlM:=by
 refine Am A0 mixed Tryz.func58 (by kernel_rfl) (by kernel_rfl) λvs v h' h=>?_;unfold AlM at h;split at h
 ·obtain ⟨n,r,ha,h⟩:=Bv h
  obtain ⟨h1,h⟩:=Ad h;obtain rfl:n=32:=Nat.eq_of_beq_eq_true h1;cases Aa h;have hx:=Bd C5 [] (G:=Gl);exact ⟨[.sl 2 32 (λk=>vlV (r k))],cxA Gl tb0 [],_,λS w cs hq=>by
   obtain ⟨c,l,rfl,q1,q2⟩:=hq;exact ⟨c,_,rfl,ha S w c q1,q2⟩,rfl,hx.1,hx.2,DW.ok (.k (show OK 0 32=true from rfl) <| .k eF <| .k (show C4 0 32 24=true from by decide) <| .e (AqV r)) (by kernel_rfl),Aw.refl _⟩
 ·cases h
section
variable (n:Nat) (f:Nat->In8)
def kD:Nat->Int
 | 0=>wr .i64 (By (ofNat n) 1)
 | i+1=>wr .i64 (By (kD i) 1)
def hsL:Nat->Key->Bool
 | 0=>λ_=>false
 | i+1=>bif ieq (f (toN (kD n i))).op 12 then Ow (hsL i) (.s (f (toN (kD n i))).lab) else hsL i
def gtL:Nat->Key->Int
 | 0=>λ_=>0
 | i+1=>bif ieq (f (toN (kD n i))).op 12 then (λx=>sel (keq x (.s (f (toN (kD n i))).lab)) (kD n i) (gtL i x)) else gtL i
def wO (i j:Nat):Int:=bif Nat.blt j i then -1 else 0
def lnO (i j:Nat):Int:=bif Nat.blt j i then atF f j else wO n j
def T56 (c:Int) (i:Nat):St:=⟨jsV 108 0 Ab [(0,.sl 8 n (λi=>i8V (f i))),(5,.ref 1),(6,.ref 2),(21,.sl 8 n (λi=>i8V (f i))),(22,nV n),(23,iV c)],[.row 3 1 0 Ab,.gmap 149 [] (hsL n f 0) (λx=>iV (gtL n f 0 x)),.row 3 1 n (λj=>iV (wO i j))]⟩
def f56:Ex×St:=(.ex 0,⟨jsV 108 0 Ab [(0,.sl 8 n (λi=>i8V (f i))),(5,.ref 1),(6,.ref 2)],[.row 3 1 0 Ab,.gmap 149 [] (hsL n f 0) (λx=>iV (gtL n f 0 x)),.row 3 1 n (λj=>iV (wO n j))]⟩)
def RD (i:Nat):St:=⟨jsV 108 0 Ab [(0,.sl 8 n (λi=>i8V (f i))),(5,.ref 1),(6,.ref 2),(9,iV (kD n i))],[.row 3 1 0 Ab,.gmap 149 [] (hsL n f i) (λx=>iV (gtL n f i x)),.row 3 1 n (λj=>iV (wO n j))]⟩
def Apa:Ex×St:=(.ex 2,⟨jsV 108 0 Ab [(0,.sl 8 n (λi=>i8V (f i))),(5,.ref 1),(6,.ref 2)],[.row 3 1 0 Ab,.gmap 149 [] (hsL n f n) (λx=>iV (gtL n f n x)),.row 3 1 n (λj=>iV (wO n j))]⟩)
def Qi (c:Int) (i:Nat):St:=⟨jsV 108 0 Ab [(0,.sl 8 n (λi=>i8V (f i))),(5,.ref 1),(6,.ref 2),(56,.sl 8 n (λi=>i8V (f i))),(57,nV n),(58,iV c)],[.row 3 1 0 Ab,.gmap 149 [] (hsL n f n) (λx=>iV (gtL n f n x)),.row 3 1 n (λj=>iV (lnO n f i j))]⟩
def AoZ:Ex×St:=(.ex 4,⟨jsV 108 0 Ab [(6,.ref 2)],[.row 3 1 0 Ab,.gmap 149 [] (hsL n f n) (λx=>iV (gtL n f n x)),.row 3 1 n (λj=>iV (lnO n f n j))]⟩)
end
def lp56:Lp:=⟨bmK 108 0 [0,5,6,21,22,23],3,bmK 108 0 [0,5,6],3,4611686018427387905⟩
def Acj:Lp:=⟨bmK 108 0 [0,5,6,9],3,bmK 108 0 [0,5,6],3,4611686018427387905⟩
def Aci:Lp:=⟨bmK 108 0 [0,5,6,56,57,58],3,bmK 108 0 [6],3,4611686018427387905⟩
def ls56:List (Nat×Lp×List (Nat×(Nat->V))):=[(0,lp56,[]),(2,Acj,[]),(4,Aci,[])]
noncomputable def tb56:AE:=(85,PK)::(86,ixT (bV true))::[]
theorem tb56_ok:Ar Tryz.prog Gl tb56:=.cons p85 <| .cons p86 .nil
noncomputable def B56 (id:Nat) (L:LT):St->T (Ex×St):=λst=>AK tab ⟨A2 tb56,L,Gl⟩ (A3 Tryz.f56 id) id st
theorem Yk {n:Nat} (hn:n <= 256):∀ i,i <= n->kD n i=ofNat n-1-ofNat i
 | 0,_=>by
  unfold kD wr By IntKind.wrap;simp [IntKind.bits,IntKind.signed];omega
 | i+1,h=>by
  have ih:=Yk hn i (by omega);unfold kD;rw [ih];unfold wr By IntKind.wrap;simp [IntKind.bits,IntKind.signed];omega
theorem Re {n i:Nat} (hn:n <= 256) (hi:i<n):ile 0 (kD n i)=true∧Ak (ile 0 (kD n i)) (ilt (kD n i) (ofNat n))=true∧toN (kD n i)<n:=by
 have h:=Yk hn i (by omega);have h1:ile 0 (kD n i)=true:=decide_eq_true (by rw [h]; show (0:Int) <= (n:Int)-1-(i:Int); omega);have h2:ilt (kD n i) (ofNat n)=true:=decide_eq_true (by rw [h]; show (n:Int)-1-(i:Int)<(n:Int); omega);refine ⟨h1,by rw [h1,h2]; rfl,?_⟩;rw [h];show ((n:Int)-1-(i:Int)).toNat<n;omega
theorem Alz {n i:Nat} (hn:n <= 256) (hi:i<n):kD n i=ofNat (n-1-i):=by
 rw [Yk hn i (by omega)];show (n:Int)-1-(i:Int)=((n-1-i:Nat):Int);omega
theorem AbX {t:List UInt8} (h:nmB t=true):MZ t []=true:=by
 obtain ⟨k,hk,rfl⟩:=AbW h;exact List.all_eq_true.1 (show ((List.range 32).all λk=>MZ (GG k) [])=true by kernel_rfl) k (by simpa using hk)
theorem NM {I:In8} (h:IsI I):MZ I.lab []=true:=by
 cases h with
 | bne _ _ ht=>exact AbX ht
 | lab ht=>exact AbX ht
 | _=>rfl
theorem Yj (a b:List UInt8):keq (.s a) (.s b)=seq a b:=rfl
theorem Abh {a b:List UInt8} (h:seq a b=true):a=b:=by simpa [seq] using h
theorem Tv {a b:Nat} (h:a ≠ b):Nat.beq a b=false:=by
 cases hb:Nat.beq a b with
 | false=>rfl
 | true=>exact absurd (Nat.eq_of_beq_eq_true hb) h
theorem PQ {a b:Nat} (h:b <= a):Nat.blt a b=false:=by
 cases hb:Nat.blt a b with
 | false=>rfl
 | true=>have:=Nat.le_of_ble_eq_true hb; omega
section
variable {n:Nat} {f:Nat->In8} (hk:LkOK n f)
include hk
theorem Alu {k:Nat} (hkn:k<n) (h12:ieq (f k).op 12=true):∀ m,m <= n->n-m <= k->hsL n f m (.s (f k).lab)=true∧gtL n f m (.s (f k).lab)=ofNat k
 | 0,_,h=>by omega
 | m+1,hm,h=>by
  have hd:=Alz hk.hn (show m<n by omega);have ht:toN (kD n m)=n-1-m:=by rw [hd]; rfl
  by_cases e:n-1-m=k
  ·have e1:f (toN (kD n m))=f k:=by rw [ht,e]
   unfold hsL gtL;rw [e1,h12];refine ⟨?_,?_⟩
   ·show bor (keq (.s (f k).lab) (.s (f k).lab)) _=true
    rw [Yj,eSq];rfl
   ·show sel (keq (.s (f k).lab) (.s (f k).lab)) (kD n m) _=ofNat k
    rw [Yj,eSq,hd,e];rfl
  ·have ih:=Alu hkn h12 m (by omega) (by omega)
   unfold hsL gtL;cases ho:ieq (f (toN (kD n m))).op 12 with
   | false=>exact ih
   | true =>
    rw [ht] at ho ⊢;have hl:=hk.lab k hkn h12 (n-1-m) (by omega) ho;have hl2:seq (f k).lab (f (n-1-m)).lab=false:=by
     cases hc:seq (f k).lab (f (n-1-m)).lab with
     | false=>rfl
     | true =>rw [Abh hc,eSq] at hl;cases hl
    refine ⟨?_,?_⟩
    ·show bor (keq (.s (f k).lab) (.s (f (n-1-m)).lab)) (hsL n f m (.s (f k).lab))=true
     rw [ih.1,Yj,hl2];rfl
    ·show sel (keq (.s (f k).lab) (.s (f (n-1-m)).lab)) (kD n m) (gtL n f m (.s (f k).lab))=ofNat k
     rw [ih.2,Yj,hl2];rfl
theorem Aq9 {i:Nat} (hi:i<n) (h:ieq (f i).op 12=true):sel (hsL n f n (Key.s (f i).lab)) (gtL n f n (Key.s (f i).lab)) 0=ofNat i:=by
 obtain ⟨h1,h2⟩:=Alu hk hi h n (Nat.le_refl _) (by omega);rw [h1,h2];rfl
theorem AcA {i:Nat} (hi:i<n) (h:ieq (f i).op 11=true):hsL n f n (Key.s (f i).lab)=true∧sel (hsL n f n (Key.s (f i).lab)) (gtL n f n (Key.s (f i).lab)) 0=ofNat (i+1):=by
 obtain ⟨h1,h2,h3⟩:=hk.bne i hi h;have e:=Abh h3;have:=Alu hk h1 h2 n (Nat.le_refl _) (by omega);rw [e] at this;exact ⟨this.1,by rw [this.1,this.2]; rfl⟩
theorem wr1 {i:Nat} (hi:i<n):wr .i64 (Ai (ofNat i) 1)=ofNat (i+1):=CU hi (by have:=hk.hn; omega)
theorem ApY {i:Nat} (hi:i<n) (h:ieq (f i).op 11=true):Ak (ile 0 (wr .i64 (Ai (ofNat i) 1))) (ile (wr .i64 (Ai (ofNat i) 1)) (ofNat n))=true:=by
 have:=(hk.bne i hi h).1;rw [wr1 hk hi];have h1:ile 0 (ofNat (i+1))=true:=decide_eq_true (by show (0:Int) <= ((i+1:Nat):Int); omega);have h2:ile (ofNat (i+1)) (ofNat n)=true:=decide_eq_true (by show ((i+1:Nat):Int) <= (n:Int); omega);rw [h1,h2];rfl
theorem AoI {i:Nat} (hi:i<n) (h:ieq (f i).op 11=true):hasB (If n (toN (wr .i64 (Ai (ofNat i) 1)))) (λj=>f (BC (toN (wr .i64 (Ai (ofNat i) 1))) j)) (f i)=true:=by
 obtain ⟨h1,h2,h3⟩:=hk.bne i hi h;unfold hasB hqB;rw [wr1 hk hi];show Ak (OK 0 (n-(i+1))) (Ak (ieq (f (i+1+0)).op 12) (seq (f (i+1+0)).lab (f i).lab))=true;rw [Nat.add_zero,h2,h3,show OK 0 (n-(i+1))=true from Nat.ble_eq_true_of_le (by omega)];rfl
theorem Abe {g g':Nat->Int} {k:Nat} {x:Int} (h:∀ j,(bif Nat.beq j k then x else g j)=g' j):B1 (λj=>iV (g j)) k (iV x)=λj=>iV (g' j):=by
 have _:=hk;funext j;rw [EG,<- h j];cases Nat.beq j k <;> rfl
theorem AqA {i:Nat} (hi:i<n):(Ex.nm,(⟨jsV 108 0 Ab [(0,.sl 8 n (λi=>i8V (f i))),(5,.ref 1),(6,.ref 2),(21,.sl 8 n (λi=>i8V (f i))),(22,nV n),(23,iV (wr .i64 (Ai (ofNat i) 1)))],[.row 3 1 0 Ab,.gmap 149 [] (hsL n f 0) (λx=>iV (gtL n f 0 x)),.row 3 1 n (B1 (λj=>iV (wO i j)) i (iV (-1)))]⟩:St))=(Ex.nm,T56 n f (ofNat (i+1)) (i+1)):=by
 unfold T56;rw [wr1 hk hi,Abe hk (g':=wO (i+1)) λj=>by
  unfold wO;rcases Nat.lt_trichotomy j i with h | h | h
  ·rw [show Nat.beq j i=false from Tv (by omega),show Nat.blt j i=true from Nat.ble_eq_true_of_le h,show Nat.blt j (i+1)=true from Nat.ble_eq_true_of_le (by omega)]
   rfl
  ·subst h
   rw [Nat.beq_refl,show Nat.blt j (j+1)=true from Nat.ble_eq_true_of_le (by omega)];rfl
  ·rw [show Nat.beq j i=false from Tv (by omega),PQ (by omega),PQ (by omega)]
   rfl]
omit hk in
theorem Ao1 {i:Nat} (h1:ieq (f (toN (kD n i))).op 12=true):(Ex.nm,(⟨jsV 108 0 Ab [(0,.sl 8 n (λi=>i8V (f i))),(5,.ref 1),(6,.ref 2),(9,iV (wr .i64 (By (kD n i) 1)))],[.row 3 1 0 Ab,.gmap 149 [] (Ow (hsL n f i) (Key.s (f (toN (kD n i))).lab)) (Sl (λx=>iV (gtL n f i x)) (Key.s (f (toN (kD n i))).lab) (iV (kD n i))),.row 3 1 n (λj=>iV (wO n j))]⟩:St))=(Ex.nm,RD n f (i+1)):=by
 unfold RD;rw [show hsL n f (i+1)=Ow (hsL n f i) (Key.s (f (toN (kD n i))).lab) by rw [hsL,h1]; rfl,show gtL n f (i+1)=λx=>sel (keq x (.s (f (toN (kD n i))).lab)) (kD n i) (gtL n f i x) by rw [gtL,h1]; rfl];rfl
omit hk in
theorem Ao2 {i:Nat} (h1:ieq (f (toN (kD n i))).op 12=false):(Ex.nm,(⟨jsV 108 0 Ab [(0,.sl 8 n (λi=>i8V (f i))),(5,.ref 1),(6,.ref 2),(9,iV (wr .i64 (By (kD n i) 1)))],[.row 3 1 0 Ab,.gmap 149 [] (hsL n f i) (λx=>iV (gtL n f i x)),.row 3 1 n (λj=>iV (wO n j))]⟩:St))=(Ex.nm,RD n f (i+1)):=by
 unfold RD;rw [show hsL n f (i+1)=hsL n f i by rw [hsL,h1]; rfl,show gtL n f (i+1)=gtL n f i by rw [gtL,h1]; rfl];rfl
theorem Aid {i:Nat} (hi:i<n) (h1:ieq (f i).op 11=false):(Ex.nm,Qi n f (wr .i64 (Ai (ofNat i) 1)) i)=(Ex.nm,Qi n f (ofNat (i+1)) (i+1)):=by
 unfold Qi;rw [wr1 hk hi,show lnO n f i=lnO n f (i+1) from funext λj=>by
  unfold lnO;rcases Nat.lt_trichotomy j i with h | h | h
  ·rw [show Nat.blt j i=true from Nat.ble_eq_true_of_le h,show Nat.blt j (i+1)=true from Nat.ble_eq_true_of_le (by omega)]
  ·subst h
   rw [PQ (Nat.le_refl _),show Nat.blt j (j+1)=true from Nat.ble_eq_true_of_le (by omega)];unfold wO atF;rw [show Nat.blt j n=true from Nat.ble_eq_true_of_le hi,h1];rfl
  ·rw [PQ (by omega),PQ (by omega)]]
theorem Ao3 {i:Nat} (hi:i<n) (h1:ieq (f i).op 11=true):(Ex.nm,(⟨jsV 108 0 Ab [(0,.sl 8 n (λi=>i8V (f i))),(5,.ref 1),(6,.ref 2),(56,.sl 8 n (λi=>i8V (f i))),(57,nV n),(58,iV (wr .i64 (Ai (ofNat i) 1)))],[.row 3 1 0 Ab,.gmap 149 [] (hsL n f n) (λx=>iV (gtL n f n x)),.row 3 1 n (B1 (λj=>iV (lnO n f i j)) i (iV (sel (hsL n f n (Key.s (f i).lab)) (gtL n f n (Key.s (f i).lab)) 0)))]⟩:St))=(Ex.nm,Qi n f (ofNat (i+1)) (i+1)):=by
 unfold Qi;rw [wr1 hk hi,(AcA hk hi h1).2,Abe hk (g':=lnO n f (i+1)) λj=>by
  unfold lnO;rcases Nat.lt_trichotomy j i with h | h | h
  ·rw [show Nat.beq j i=false from Tv (by omega),show Nat.blt j i=true from Nat.ble_eq_true_of_le h,show Nat.blt j (i+1)=true from Nat.ble_eq_true_of_le (by omega)]
   rfl
  ·subst h
   rw [Nat.beq_refl,show Nat.blt j (j+1)=true from Nat.ble_eq_true_of_le (by omega)];unfold atF;rw [h1];rfl
  ·rw [show Nat.beq j i=false from Tv (by omega),PQ (by omega),PQ (by omega)]
   rfl]
theorem r56:(A4 (B56 0 (Go.Sy.askL ls56)) lp56 4611686018427387905 (T56 n f 0 0)).sem=some (f56 n f) :=
 JD (S:=λi=>T56 n f (ofNat i) i) (m:=n) (show (Ex.ex 0) ≠ .nm from nofun) (λi hi=>DW.rd (.k (ofNat_lt hi) <| .k (Ae hi) <| .k eT <| .k (Ek (hk.ok i hi)) <| .k (eN (eI 0)) <| .k (Ae hi) <| .k (decide_eq_true hi) <| .e (AqA hk hi)) (by kernel_rfl)) (DW.rd (.k (Az (Nat.le_refl n)) .l) (by kernel_rfl)) (by have:=hk.hn; omega)
theorem AnB:(A4 (B56 2 (Go.Sy.askL ls56)) Acj 4611686018427387905 (RD n f 0)).sem=some (Apa n f) :=
 JD (S:=λi=>RD n f i) (m:=n) (show (Ex.ex 2) ≠ .nm from nofun) (λi hi=>by
  cases h1:ieq (f (toN (kD n i))).op 12 with
  | true=>exact DW.rd (.k (Re hk.hn hi).1 <| .k (Re hk.hn hi).2.1 <| .k h1 <| .k (Re hk.hn hi).2.1 <| .k (NM (hk.ok _ (Re hk.hn hi).2.2)) <| .e (Ao1 h1)) (by kernel_rfl)
  | false=>exact DW.rd (.k (Re hk.hn hi).1 <| .k (Re hk.hn hi).2.1 <| .k h1 <| .e (Ao2 h1)) (by kernel_rfl)) (DW.rd (.k (show ile 0 (kD n n)=false from decide_eq_false (by rw [Yk hk.hn n (Nat.le_refl _)]; show ¬ ((0:Int) <= (n:Int)-1-(n:Int)); omega)) .l) (by kernel_rfl)) (by have:=hk.hn; omega)
theorem AnA:(A4 (B56 4 (Go.Sy.askL ls56)) Aci 4611686018427387905 (Qi n f 0 0)).sem=some (AoZ n f) :=
 JD (S:=λi=>Qi n f (ofNat i) i) (m:=n) (show (Ex.ex 4) ≠ .nm from nofun) (λi hi=>by
  cases h1:ieq (f i).op 11 with
  | true=>exact DW.rd (.k (ofNat_lt hi) <| .k (Ae hi) <| .k (NM (hk.ok i hi)) <| .r 4 (Cp (j:=12) (Cg h1)) <| .k eF <| .r 3 h1 <| .r 4 (eN (AcA hk hi h1).1) <| .k (ApY hk hi h1) <| .r 2 (eN (AcA hk hi h1).1) <| .k (eL (If n (toN (wr .i64 (Ai (ofNat i) 1))))) <| .k eT <| .k (AoI hk hi h1) <| .k (eN (AcA hk hi h1).1) <| .k h1 <| .k (eN (AcA hk hi h1).1) <| .k h1 <| .k (eN eT) <| .k h1 <| .k (Ae hi) <| .k (decide_eq_true hi) <| .e (Ao3 hk hi h1)) (by kernel_rfl)
  | false =>
   cases h2:ieq (f i).op 12 with
   | true =>have h1:=h2;exact DW.rd (.k (ofNat_lt hi) <| .k (Ae hi) <| .k (NM (hk.ok i hi)) <| .r 4 h1 <| .k (eN (E8 (Aq9 hk hi h1))) <| .r 5 (Cp (j:=11) (Cg h1)) <| .k eF <| .k (Cp (j:=11) (Cg h1)) <| .e (Aid hk hi (Cp (j:=11) (Cg h1)))) (by kernel_rfl)
   | false=>exact DW.rd (.k (ofNat_lt hi) <| .k (Ae hi) <| .k (NM (hk.ok i hi)) <| .r 4 h2 <| .k eF <| .r 5 h1 <| .k eF <| .k h1 <| .e (Aid hk hi h1)) (by kernel_rfl)) (DW.rd (.k (Az (Nat.le_refl n)) .l) (by kernel_rfl)) (by have:=hk.hn; omega)
end
theorem Aq5 {n:Nat} (h:n <= 256):EL 8 (ofNat n) (ofNat n)=true:=by
 unfold EL;simp only [Bool.and_eq_true,decide_eq_true_eq];refine ⟨?_,Int.le_refl _,?_,?_⟩
 ·exact Int.natCast_nonneg n
 ·show ((8:Nat):Int) * (n:Int) <= 281474976710656
  omega
 ·show (n:Int) <= 9223372036854775807
  omega
noncomputable def Alt:List V->AA
 | [v]=>apG AdI v λn f=>.br (pB (LkOK n f)) (.leaf (.tup [.ref 0,iV 0,iV 0],[.row 3 1 n (λj=>iV (lnO n f n j))])) .fail
 | _=>.fail
theorem p56:As Tryz.prog Gl 56 Alt:=by
 refine Am A0 mixed Tryz.func56 (by kernel_rfl) (by kernel_rfl) λvs v h' h=>?_;unfold Alt at h;split at h
 ·obtain ⟨n,f,ha,h⟩:=Bv h
  obtain ⟨h1,h⟩:=Ad h;have hk:=Li h1;cases Aa h;have hx:=Bd tb56_ok ls56 (G:=Gl);have h256:ilt 256 (ofNat n)=false:=decide_eq_false (by have:=hk.hn; show ¬ ((256:Int)<(n:Int)); omega);exact ⟨[.sl 8 n (λi=>i8V (f i))],cxA Gl tb56 ls56,_,λS w cs hq=>by
   obtain ⟨c,l,rfl,q1,q2⟩:=hq;exact ⟨c,_,rfl,ha S w c q1,q2⟩,rfl,hx.1,hx.2,DW.ok (.k h256 <| .k (Aq5 hk.hn) <| .a (r56 hk) <| .a (AnB hk) <| .a (AnA hk) <| .l) (by kernel_rfl),Aw.refl _⟩
 ·cases h
end Go.Proofs.YtkbafjceglhjhaaGreatDoor.Er
