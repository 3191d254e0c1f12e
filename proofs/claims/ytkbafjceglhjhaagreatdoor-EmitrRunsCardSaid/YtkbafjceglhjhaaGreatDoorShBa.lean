/-
  The document's parts, threads, locations: the part of each edge. No conditions.
-/
import Derived.Test.YtkbafjceglhjhaaGreatDoorCyO
namespace Go.Proofs.YtkbafjceglhjhaaGreatDoor.Ed
set_option maxHeartbeats 4000000
open Go.Sy
open Int (ofNat)
def QX (n:Nat) (p:Nat->Bool):Lp:=⟨bmK 57 0 [0,3,4,5],2,bmK 57 0 [0,3,4],2,n+1⟩
def Ua (n:Nat) (p:Nat->Bool) (s:Int) (i:Nat) (h:Nat->Int) (j:Nat->V):St:=⟨jsV 57 0 j [(0,.sl 1 n (λk=>bV (p k))),(3,.ref 1),(4,iV s),(5,nV i)],[.row 3 1 0 Ab,.row 3 1 i (λk=>iV (h k))]⟩
def GA (n:Nat) (p:Nat->Bool) (s:Int) (i:Nat) (h:Nat->Int):Ex×St:=(.ex 0,⟨jsV 57 0 Ab [(0,.sl 1 n (λk=>bV (p k))),(3,.ref 1),(4,iV s)],[.row 3 1 0 Ab,.row 3 1 i (λk=>iV (h k))]⟩)
noncomputable def Fq (L:LT):St->T (Ex×St):=λst=>AK tab ⟨A2 tb0,L,Gl⟩ (A3 Tryz.f185 0) 0 st
section
variable (L:LT) (n:Nat) (p:Nat->Bool) (s:Int) (i:Nat) (h:Nat->Int)  (j:Nat->V)
include L n p s i h j
theorem AkJ (h0:ilt (ofNat i) (ofNat n)=false):A1 (Fq L) (QX n p) (Ua n p s i h j)=some ((.ex 0),⟨jsV 57 0 Ab [(0,.sl 1 n (λk=>bV (p k))),(3,.ref 1),(4,iV s)],[.row 3 1 0 Ab,.row 3 1 i (λk=>iV (h k))]⟩):=by
 exact Af (ks:=[kn h0]) (by kernel_rfl)
theorem AkH (h0:ilt (ofNat i) (ofNat n)=true) (h2:C4 i 1 8=true) (h1:Ak (ile 0 (ofNat i)) (ilt (ofNat i) (ofNat n))=true) (h3:p i=true):A1 (Fq L) (QX n p) (Ua n p s i h j)=some (.nm,⟨jsV 57 0 Ab [(0,.sl 1 n (λk=>bV (p k))),(3,.ref 1),(4,iV (wr .i64 (Ai s 1))),(5,iV (wr .i64 (Ai (ofNat i) 1)))],[.row 3 1 0 Ab,.row 3 1 (BC i 1) (AX i (λk=>iV (h k)) (iV s))]⟩):=by
 exact Af (ks:=[kn h0,kn h2,kn h1,kn h3]) (by kernel_rfl)
theorem AkI (h0:ilt (ofNat i) (ofNat n)=true) (h2:C4 i 1 8=true) (h1:Ak (ile 0 (ofNat i)) (ilt (ofNat i) (ofNat n))=true) (h3:p i=false):A1 (Fq L) (QX n p) (Ua n p s i h j)=some (.nm,⟨jsV 57 0 Ab [(0,.sl 1 n (λk=>bV (p k))),(3,.ref 1),(4,iV s),(5,iV (wr .i64 (Ai (ofNat i) 1)))],[.row 3 1 0 Ab,.row 3 1 (BC i 1) (AX i (λk=>iV (h k)) (iV s))]⟩):=by
 exact Af (ks:=[kn h0,kn h2,kn h1,kn h3]) (by kernel_rfl)
end
def Jh (n:Nat) (p:Nat->Bool) :St:=⟨jsV 57 0 (λ_=>AH) [(0,.sl 1 n (λk=>bV (p k))),(2,.ref 0),(3,.ref 1),(4,iV 0),(5,iV 0)],[.row 3 1 0 Ab,.row 3 1 0 Ab]⟩
def Lo (n:Nat) (p:Nat->Bool):Lp:=⟨bmK 57 0 [0,3,7],2,bmK 57 0 [3],2,n+1⟩
def KZ (n:Nat) (p:Nat->Bool) (d:Int) (g:Nat->Int) (j:Nat->V):St:=⟨jsV 57 0 j [(0,.sl 1 n (λk=>bV (p k))),(3,.ref 1),(7,iV d)],[.row 3 1 0 Ab,.row 3 1 n (λk=>iV (g k))]⟩
def LK (n:Nat) (p:Nat->Bool) (d:Int) (g:Nat->Int):Ex×St:=(.ex 2,⟨jsV 57 0 Ab [(3,.ref 1)],[.row 3 1 0 Ab,.row 3 1 n (λk=>iV (g k))]⟩)
noncomputable def HK (L:LT):St->T (Ex×St):=λst=>AK tab ⟨A2 tb0,L,Gl⟩ (A3 Tryz.f185 2) 2 st
section
variable (L:LT) (n:Nat) (p:Nat->Bool) (d:Int) (g:Nat->Int)  (j:Nat->V)
include L n p d g j
theorem Akw (h0:ile 0 d=false):A1 (HK L) (Lo n p) (KZ n p d g j)=some ((.ex 2),⟨jsV 57 0 Ab [(3,.ref 1)],[.row 3 1 0 Ab,.row 3 1 n (λk=>iV (g k))]⟩):=by
 exact Af (ks:=[kn h0,kn h0,kn h0,kn h0,kn h0,kn h0,kF]) (by kernel_rfl)
theorem Akv (h0:ile 0 d=true) (h1:Ak (ile 0 d) (ilt d (ofNat n))=true) (h3:p (toN d)=true):A1 (HK L) (Lo n p) (KZ n p d g j)=some ((.ex 2),⟨jsV 57 0 Ab [(3,.ref 1)],[.row 3 1 0 Ab,.row 3 1 n (λk=>iV (g k))]⟩):=by
 exact Af (ks:=[kn h0,kn h0,kn h0,kn h1,kn h0,kn h0,kn h0,kN (kn h3)]) (by kernel_rfl)
theorem Aku (h0:ile 0 d=true) (h1:Ak (ile 0 d) (ilt d (ofNat n))=true) (h3:p (toN d)=false) (h2:nlt (toN d) n=true):A1 (HK L) (Lo n p) (KZ n p d g j)=some (.nm,⟨jsV 57 0 Ab [(0,.sl 1 n (λk=>bV (p k))),(3,.ref 1),(7,iV (wr .i64 (By d 1)))],[.row 3 1 0 Ab,.row 3 1 n (B1 (λk=>iV (g k)) (toN d) (iV 0))]⟩):=by
 exact Af (ks:=[kn h0,kn h0,kn h0,kn h1,kn h0,kn h0,kn h0,kN (kn h3),kn h1,kn h2]) (by kernel_rfl)
end
def Ag2 (n:Nat) (p:Nat->Bool) (s:Int) (g:Nat->Int):Nat->V:=lkU 144110790046121766 [(4,iV s),(6,nV n),(24,.sl 1 n (λk=>bV (p k))),(25,nV n),(26,nV n),(27,bV (ilt 0 (ofNat n))),(28,bV (ilt 0 (ofNat n))),(29,iV s),(30,bV (ilt 0 s)),(31,bV (ilt 0 s)),(32,bV (ilt 0 s)),(33,.sl 1 n (λk=>bV (p k))),(34,nV n),(35,iV (wr .i64 (By (ofNat n) 1))),(36,.pp (bV (p (toN (wr .i64 (By (ofNat n) 1)))))),(37,bV (p (toN (wr .i64 (By (ofNat n) 1))))),(38,bV (AV (p (toN (wr .i64 (By (ofNat n) 1)))))),(39,bV (AV (p (toN (wr .i64 (By (ofNat n) 1)))))),(40,nV n),(41,iV (wr .i64 (By (ofNat n) 1)))]
section
variable (L:LT) (p0:PT) (n:Nat) (p:Nat->Bool) (s:Int) (g:Nat->Int)
include L p0 n p s g
theorem Ajf (h0:ilt 0 (ofNat n)=false) (hp0:p0 (Fq (onP 0 p0 (GA n p s n g) L)) (Jh n p)=true):(Ay (Aj tab ⟨A2 tb0,onP 0 p0 (GA n p s n g) L,Gl⟩ Tryz.f185 [.sl 1 n (λk=>bV (p k))] [])).sem=some ((.ref 0),[.row 3 1 n (λk=>iV (g k))]):=by
 exact Af (ks:=[kn hp0,kn h0,kn h0,kn h0,kF,kF,kF,kF,kF,kF,kF,kF]) (by kernel_rfl)
theorem Aje (h0:ilt 0 (ofNat n)=true) (h1:ilt 0 s=false) (hp0:p0 (Fq (onP 0 p0 (GA n p s n g) L)) (Jh n p)=true):(Ay (Aj tab ⟨A2 tb0,onP 0 p0 (GA n p s n g) L,Gl⟩ Tryz.f185 [.sl 1 n (λk=>bV (p k))] [])).sem=some ((.ref 0),[.row 3 1 n (λk=>iV (g k))]):=by
 exact Af (ks:=[kn hp0,kn h0,kn h0,kn h0,kn h1,kn h1,kn h1,kn h1,kn h1,kn h1,kn h1,kF]) (by kernel_rfl)
theorem Ajd (h0:ilt 0 (ofNat n)=true) (h1:ilt 0 s=true) (h2:Ak (ile 0 (wr .i64 (By (ofNat n) 1))) (ilt (wr .i64 (By (ofNat n) 1)) (ofNat n))=true) (h3:p (toN (wr .i64 (By (ofNat n) 1)))=true) (hp0:p0 (Fq (onP 0 p0 (GA n p s n g) L)) (Jh n p)=true):(Ay (Aj tab ⟨A2 tb0,onP 0 p0 (GA n p s n g) L,Gl⟩ Tryz.f185 [.sl 1 n (λk=>bV (p k))] [])).sem=some ((.ref 0),[.row 3 1 n (λk=>iV (g k))]):=by
 exact Af (ks:=[kn hp0,kn h0,kn h0,kn h0,kn h1,kn h1,kn h1,kn h1,kn h2,kn h1,kn h1,kn h1,kN (kn h3)]) (by kernel_rfl)
end
theorem Ajc (L:LT) (p0:PT) (p2:PT) (n:Nat) (p:Nat->Bool) (s:Int) (g:Nat->Int) (d:Int) (u:Nat->Int) (h0:ilt 0 (ofNat n)=true) (h1:ilt 0 s=true) (h2:Ak (ile 0 (wr .i64 (By (ofNat n) 1))) (ilt (wr .i64 (By (ofNat n) 1)) (ofNat n))=true) (h3:p (toN (wr .i64 (By (ofNat n) 1)))=false) (hp0:p0 (Fq (onP 0 p0 (GA n p s n g) (onP 2 p2 (LK n p d u) L))) (Jh n p)=true) (hp2:p2 (HK (onP 0 p0 (GA n p s n g) (onP 2 p2 (LK n p d u) L))) (KZ n p (wr .i64 (By (ofNat n) 1)) g (Ag2 n p s g))=true):(Ay (Aj tab ⟨A2 tb0,onP 0 p0 (GA n p s n g) (onP 2 p2 (LK n p d u) L),Gl⟩ Tryz.f185 [.sl 1 n (λk=>bV (p k))] [])).sem=some ((.ref 0),[.row 3 1 n (λk=>iV (u k))]):=by
 exact Af (ks:=[kn hp0,kn h0,kn h0,kn h0,kn h1,kn h1,kn h1,kn h1,kn h2,kn h1,kn h1,kn h1,kN (kn h3),kn hp2]) (by kernel_rfl)
theorem Ut (p:Nat->Bool) (i:Nat):AX i (λk=>iV (Dq p i k)) (iV (ofNat (Al p i)))=λk=>iV (Dq p (i+1) k):=by
 funext k;rw [BK,show Nat.beq k i=decide (k=i) by rw [Bool.eq_iff_iff]; simp];unfold Dq;by_cases h:k=i
 ·subst h; simp
 ·by_cases h2:k<i
  ·have:k<i+1:=by omega
   simp [h,h2,this]
  ·have:¬ k<i+1:=by omega
   simp [h,h2,this]
theorem Bz {p:Nat->Bool} {i:Nat} (h:p i=true):Al p (i+1)=Al p i+1:=by rw [Al,h]
theorem BL {p:Nat->Bool} {i:Nat} (h:p i=false):Al p (i+1)=Al p i:=by rw [Al,h]
theorem Wm (L:LT) (n:Nat) (p:Nat->Bool) (h8:n * 8 <= 140737488355328):∀ (e i:Nat) (j:Nat->V) (q:Nat),n=i+e->e<q ->
  (A4 (Fq L) (QX n p) q (Ua n p (ofNat (Al p i)) i (Dq p i) j)).sem=some (GA n p (ofNat (Al p n)) n (Dq p n))
 | 0,i,j,q+1,h,_=>by
  have:n=i:=by omega
  subst this;exact Ah (AkJ L n p _ _ _ j (Az (Nat.le_refl _)))
 | e+1,i,j,q+1,h,h2=>by
  have hc:=BI p i;have hl:i<n:=by omega
  have ha:C4 i 1 8=true:=Hf (by omega);cases hp:p i with
  | true =>rw [Ah (AkH L n p (ofNat (Al p i)) i (Dq p i) j (ofNat_lt hl) ha (Ae hl) hp),AY,A5 hl (by omega),A5 (show Al p i<n by omega) (by omega),<- Bz hp,Ut p i];exact Wm L n p h8 e (i+1) Ab q (by omega) (by omega)
  | false =>rw [Ah (AkI L n p (ofNat (Al p i)) i (Dq p i) j (ofNat_lt hl) ha (Ae hl) hp),AY,A5 hl (by omega),Ut p i,<- BL hp];exact Wm L n p h8 e (i+1) Ab q (by omega) (by omega)
set_option maxHeartbeats 4000000 in
theorem XE (L:LT) (n:Nat) (p:Nat->Bool) (hn:n <= 4611686018427387904) (hs:0<Al p n):∀ (D:Nat) (j:Nat->V) (q:Nat),D <= n->D<q->(∀ k,D <= k->k<n->Al p k=Al p n) ->
  (A4 (HK L) (Lo n p) q (KZ n p (dn D) (Dq p D) j)).sem=some (LK n p 0 (A8 p n))
 | 0,j,q+1,h,_,hb=>by
  rw [<- Ic p n 0 h (λk hk=>absurd hk (Nat.not_lt_zero _)) hb];exact Ah (Akw L n p (dn 0) (Dq p 0) j rfl)
 | D+1,j,q+1,h,h2,hb=>by
  have hD:D<n:=by omega
  have hk:nlt D n=true:=by simpa [nlt] using hD
  cases hp:p D with
  | false =>
   have he:Al p D=Al p n:=by
    rw [<- BL hp];by_cases h5:D+1=n
    ·rw [h5]
    ·exact hb (D+1) (Nat.le_refl _) (by omega)
   rw [show dn (D+1)=ofNat D from rfl,Ah (Aku L n p (ofNat D) (Dq p (D+1)) j (Cy D) (Ae hD) hp hk),AY,Rp (show D <= n by omega) hn,CN,show toN (ofNat D)=D from rfl,Mi];exact XE L n p hn hs D Ab q (by omega) (by omega) λk h3 h4=>by
    by_cases h5:k=D
    ·subst h5; exact he
    ·exact hb k (by omega) h4
  | true =>
   have h6:Al p D<Al p n:=by
    have:=Ba p (show D+1 <= n by omega);rw [Bz hp] at this;omega
   rw [<- Ic p n (D+1) h (λk hk=>by have:=Ba p (show k <= D by omega); omega) hb];rw [show dn (D+1)=ofNat D from rfl];exact Ah (Akv L n p (ofNat D) (Dq p (D+1)) j (Cy D) (Ae hD) hp)
def TE:List (Nat×List (Nat×V)):=[(0,[(1,iV 0)])]
def OP (n:Nat) (p:Nat->Bool):List (Nat×Lp):=[(0,QX n p),(2,Lo n p)]
def Mr:List V->AA
 | [v]=>apB v λn p=>.br (GH n) (.leaf (.ref 0,[.row 3 1 n λk=>iV (A8 p n k)])) .fail
 | _=>.fail
theorem AgH (n:Nat) (p:Nat->Bool):L6 (Jh n p) [(1,iV 0)]=Ua n p 0 0 (λ_=>0) (λi=>nth (Jh n p).t i):=by kernel_rfl
theorem Aex (n:Nat) (p:Nat->Bool) (h8:GH n=true) :
  (Ay (Aj tab (cxZ Gl tb0 TE (OP n p)) Tryz.f185 [Xr n p] [])).sem=some (.ref 0,[.row 3 1 n λk=>iV (A8 p n k)]):=by
 have h8':n * 8 <= 140737488355328:=of_decide_eq_true h8;have hn:n <= 4611686018427387904:=by omega
 have hL:=M4 TE (OP n p);have h0:∀ L,(Ih TE (OP n p) 0 (Fq L) (Jh n p)).sem=some (GA n p (ofNat (Al p n)) n (Dq p n)):=λL=>by
  show (A4 (Fq L) (QX n p) (n+1) (L6 (Jh n p) [(1,iV 0)])).sem=_;rw [AgH,<- Wo p];exact Wm L n p h8' n 0 _ (n+1) (by omega) (by omega)
 cases n with
 | zero =>rw [<- So p 0 rfl];exact Bp (Bm hL hL) _ (Ajf _ _ 0 p _ _ rfl (AB (h0 _)))
 | succ m =>
  have c0:ilt 0 (ofNat (m+1))=true:=by rw [show (0:Int)=ofNat 0 from rfl,DI]; simp
  have e1:wr .i64 (By (ofNat (m+1)) 1)=ofNat m:=Rp (Nat.le_refl _) hn;have e2:toN (ofNat m)=m:=rfl;cases hs:ilt 0 (ofNat (Al p (m+1))) with
  | false =>
   have hz:Al p (m+1)=0:=by simpa [ilt] using hs
   have hw:=Bp (Bm hL hL) _ (Aje _ _ (m+1) p _ _ c0 hs (AB (h0 _)));rw [<- So p (m+1) hz];exact hw
  | true =>
   have hz:0<Al p (m+1):=by simpa [ilt] using hs
   have hb:Ak (ile 0 (wr .i64 (By (ofNat (m+1)) 1))) (ilt (wr .i64 (By (ofNat (m+1)) 1)) (ofNat (m+1)))=true:=by rw [e1]; exact Ae (Nat.lt_succ_self m)
   cases hp:p m with
   | true =>have hw:=Bp (Bm hL hL) _ (Ajd _ _ (m+1) p _ _ c0 hs hb (by rw [e1,e2]; exact hp) (AB (h0 _)));rw [<- Ic p (m+1) (m+1) (Nat.le_refl _) (λk hk=>by have:=Ba p (show k <= m by omega); rw [Bz hp]; omega) (λk h1 h2=>by omega)];exact hw
   | false =>have h2:=λL j=>XE L (m+1) p hn hz (m+1) j (m+2) (Nat.le_refl _) (by omega) (λk h1 h2=>by omega);rw [show dn (m+1)=ofNat m from rfl,<- e1] at h2;exact Bp (Bm (Bm hL hL) hL) _ (Ajc _ _ _ (m+1) p _ (Dq p (m+1)) 0 (A8 p (m+1)) c0 hs hb (by rw [e1,e2]; exact hp) (AB (h0 _)) (AB (h2 _ _)))
theorem Aqu:As Tryz.prog Gl 185 Mr:=by
 refine Am A0 mixed Tryz.func185 (by kernel_rfl) (by kernel_rfl) λvs v h' h=>?_;unfold Mr at h;split at h
 ·rename_i u
  obtain ⟨n,p,ha,h1⟩:=Aea h;obtain ⟨h8,hq⟩:=Ad h1;have:=Aa hq;simp only [Prod.mk.injEq] at this;obtain ⟨rfl,rfl⟩:=this;have hA:Bw [u] [Xr n p]:=λS w cs hv=>by
   obtain ⟨c,l,rfl,q1,q2⟩:=hv;exact ⟨c,l,rfl,ha S w c q1,q2⟩
  have hx:=Xi C5 TE (OP n p);exact ⟨_,cxZ Gl tb0 TE (OP n p),_,hA,rfl,hx.1,hx.2,Aex n p h8,Aw.refl _⟩
 ·cases h
theorem EI {n:Nat}:Ct [.row 3 1 n (λ_=>iV 0)]=true:=by
 simp [Ct,MO,iV]
noncomputable def VL:AE:=(152,Cc λe=>bV (A9 e))::(153,Cc λe=>bV (AG e))::(185,Mr)::[]
theorem X2:Ar Tryz.prog Gl VL:=.cons p60 <| .cons p61 <| .cons Aqu .nil
def JW (p:Nat->Bool) (i k:Nat):Bool:=decide (k<i) && p k
theorem Ab1 (p:Nat->Bool):JW p 0=λ_=>false:=by
 funext k;simp [JW]
theorem QI (p:Nat->Bool) (i:Nat):AX i (λk=>bV (JW p i k)) (bV (p i))=λk=>bV (JW p (i+1) k):=by
 funext k;rw [BK,show Nat.beq k i=decide (k=i) by rw [Bool.eq_iff_iff]; simp];unfold JW;by_cases h:k=i
 ·subst h; simp
 ·by_cases h2:k<i
  ·have:k<i+1:=by omega
   simp [h,h2,this]
  ·have:¬ k<i+1:=by omega
   simp [h,h2,this]
theorem CE {p q:Nat->Bool}:∀ k,(∀ i,i<k->q i=p i)->Al q k=Al p k
 | 0,_=>rfl
 | k+1,h=>by
  rw [Al,Al,h k (Nat.lt_succ_self k),CE k λi hi=>h i (by omega)]
theorem OA (p:Nat->Bool) (n:Nat):A8 (JW p n) n=A8 p n:=by
 have hq:∀ i,i<n->JW p n i=p i:=λi hi=>by simp [JW,hi]
 funext k;unfold A8;by_cases h:k<n
 ·rw [CE k λi hi=>hq i (by omega),CE n hq]
 ·simp [h]
theorem K4 {n:Nat} (h:Dg n=true):n * 8 <= 140737488355328:=of_decide_eq_true (Ht h)
def U7 (n:Nat) (f:Nat->E6):Lp:=⟨bmK 21 0 [0,3,4],2,bmK 21 0 [3],2,n+1⟩
def AeZ (n:Nat) (f:Nat->E6) (i:Nat) (h:Nat->Bool) (j:Nat->V):St:=⟨jsV 21 0 j [(0,.sl 6 n (λi=>eV (f i))),(3,.ref 1),(4,nV i)],[.row 3 1 0 Ab,.row 4 1 i (λk=>bV (h k))]⟩
def YE (n:Nat) (f:Nat->E6) (i:Nat) (h:Nat->Bool):Ex×St:=(.ex 0,⟨jsV 21 0 Ab [(3,.ref 1)],[.row 3 1 0 Ab,.row 4 1 i (λk=>bV (h k))]⟩)
noncomputable def MM (L:LT):St->T (Ex×St):=λst=>AK tab ⟨A2 VL,L,Gl⟩ (A3 Tryz.f154 0) 0 st
section
variable (L:LT) (n:Nat) (f:Nat->E6) (i:Nat) (h:Nat->Bool)  (j:Nat->V)
include L n f i h j
theorem Anw (h0:ilt (ofNat i) (ofNat n)=false):A1 (MM L) (U7 n f) (AeZ n f i h j)=some ((.ex 0),⟨jsV 21 0 Ab [(3,.ref 1)],[.row 3 1 0 Ab,.row 4 1 i (λk=>bV (h k))]⟩):=by
 exact Af (ks:=[kn h0]) (by kernel_rfl)
theorem Anv (h0:ilt (ofNat i) (ofNat n)=true) (h1:Ak (ile 0 (ofNat i)) (ilt (ofNat i) (ofNat n))=true) (h2:C4 i 1 1=true):A1 (MM L) (U7 n f) (AeZ n f i h j)=some (.nm,⟨jsV 21 0 Ab [(0,.sl 6 n (λi=>eV (f i))),(3,.ref 1),(4,iV (wr .i64 (Ai (ofNat i) 1)))],[.row 3 1 0 Ab,.row 4 1 (BC i 1) (AX i (λk=>bV (h k)) (bV (A9 (f i))))]⟩):=by
 exact Af (ks:=[kn h0,kn h1,kn h2]) (by kernel_rfl)
end
def Vj (n:Nat) (f:Nat->E6) :St:=⟨jsV 21 0 (λ_=>AH) [(0,.sl 6 n (λi=>eV (f i))),(2,.ref 0),(3,.ref 1),(4,iV 0)],[.row 3 1 0 Ab,.row 4 1 0 Ab]⟩
theorem ApL (L:LT) (p0:PT) (n:Nat) (f:Nat->E6) (q:Nat->Bool) (h0:GH n=true) (h10:Ct [.row 3 1 n (λ_=>iV 0)]=true) (hp0:p0 (MM (onP 0 p0 (YE n f n q) L)) (Vj n f)=true):(Ay (Aj tab ⟨A2 VL,onP 0 p0 (YE n f n q) L,Gl⟩ Tryz.f154 [AN n f] [])).sem=some ((.ref 0),[.row 3 1 n (λk=>iV (A8 q n k))]):=by
 exact Af (ks:=[kn hp0,kL n,kn h0,kn h10]) (by kernel_rfl)
theorem Ah6 (L:LT) (n:Nat) (f:Nat->E6) (h8:n * 8 <= 140737488355328):∀ (e i:Nat) (j:Nat->V) (q:Nat),n=i+e->e<q ->
  (A4 (MM L) (U7 n f) q (AeZ n f i (JW (λk=>A9 (f k)) i) j)).sem=some (YE n f n (JW (λk=>A9 (f k)) n))
 | 0,i,j,q+1,h,_=>by
  have:n=i:=by omega
  subst this;exact Ah (Anw L n f _ _ j (Az (Nat.le_refl _)))
 | e+1,i,j,q+1,h,h2=>by
  have hl:i<n:=by omega
  have ha:C4 i 1 1=true:=Hf (by omega);rw [Ah (Anv L n f i (JW (λk=>A9 (f k)) i) j (ofNat_lt hl) (Ae hl) ha),AY,A5 hl (by omega)];have:=QI (λk=>A9 (f k)) i;rw [this];exact Ah6 L n f h8 e (i+1) Ab q (by omega) (by omega)
def Aeq:List (Nat×List (Nat×V)):=[(0,[(1,bV false)])]
theorem AlD (n:Nat) (f:Nat->E6):L6 (Vj n f) [(1,bV false)]=AeZ n f 0 (λ_=>false) (λi=>nth (Vj n f).t i):=by kernel_rfl
def Sq:List V->AA:=HL λn f=>.br (Dg n) (.leaf (.ref 0,[.row 3 1 n λk=>iV (A8 (λk=>A9 (f k)) n k)])) .fail
theorem p94:As Tryz.prog Gl 154 Sq:=by
 refine Am A0 mixed Tryz.func154 (by kernel_rfl) (by kernel_rfl) λvs v h' h=>?_;obtain ⟨n,f,ha,h1⟩:=DC h;obtain ⟨hn,hq⟩:=Ad h1;have:=Aa hq;simp only [Prod.mk.injEq] at this;obtain ⟨rfl,rfl⟩:=this;have hx:=Xi X2 Aeq [(0,U7 n f)];have hL:=M4 Aeq [(0,U7 n f)];have h0:∀ L,(Ih Aeq [(0,U7 n f)] 0 (MM L) (Vj n f)).sem=some (YE n f n (JW (λk=>A9 (f k)) n)):=λL=>by
  show (A4 (MM L) (U7 n f) (n+1) (L6 (Vj n f) [(1,bV false)])).sem=_;rw [AlD,<- Ab1 (λk=>A9 (f k))];exact Ah6 L n f (K4 hn) n 0 _ (n+1) (by omega) (by omega)
 have hw:=Bp (Bm hL hL) _ (ApL _ _ n f _ (Ht hn) EI (AB (h0 _)));rw [OA (λk=>A9 (f k)) n] at hw;exact ⟨_,cxZ Gl VL Aeq [(0,U7 n f)],_,ha,rfl,hx.1,hx.2,hw,Aw.refl _⟩
def U6 (n:Nat) (f:Nat->E6):Lp:=⟨bmK 21 0 [0,3,4],2,bmK 21 0 [3],2,n+1⟩
def AeY (n:Nat) (f:Nat->E6) (i:Nat) (h:Nat->Bool) (j:Nat->V):St:=⟨jsV 21 0 j [(0,.sl 6 n (λi=>eV (f i))),(3,.ref 1),(4,nV i)],[.row 3 1 0 Ab,.row 4 1 i (λk=>bV (h k))]⟩
def YD (n:Nat) (f:Nat->E6) (i:Nat) (h:Nat->Bool):Ex×St:=(.ex 0,⟨jsV 21 0 Ab [(3,.ref 1)],[.row 3 1 0 Ab,.row 4 1 i (λk=>bV (h k))]⟩)
noncomputable def ML (L:LT):St->T (Ex×St):=λst=>AK tab ⟨A2 VL,L,Gl⟩ (A3 Tryz.f155 0) 0 st
section
variable (L:LT) (n:Nat) (f:Nat->E6) (i:Nat) (h:Nat->Bool)  (j:Nat->V)
include L n f i h j
theorem Anu (h0:ilt (ofNat i) (ofNat n)=false):A1 (ML L) (U6 n f) (AeY n f i h j)=some ((.ex 0),⟨jsV 21 0 Ab [(3,.ref 1)],[.row 3 1 0 Ab,.row 4 1 i (λk=>bV (h k))]⟩):=by
 exact Af (ks:=[kn h0]) (by kernel_rfl)
theorem Ant (h0:ilt (ofNat i) (ofNat n)=true) (h1:Ak (ile 0 (ofNat i)) (ilt (ofNat i) (ofNat n))=true) (h2:C4 i 1 1=true):A1 (ML L) (U6 n f) (AeY n f i h j)=some (.nm,⟨jsV 21 0 Ab [(0,.sl 6 n (λi=>eV (f i))),(3,.ref 1),(4,iV (wr .i64 (Ai (ofNat i) 1)))],[.row 3 1 0 Ab,.row 4 1 (BC i 1) (AX i (λk=>bV (h k)) (bV (AG (f i))))]⟩):=by
 exact Af (ks:=[kn h0,kn h1,kn h2]) (by kernel_rfl)
end
def Vi (n:Nat) (f:Nat->E6) :St:=⟨jsV 21 0 (λ_=>AH) [(0,.sl 6 n (λi=>eV (f i))),(2,.ref 0),(3,.ref 1),(4,iV 0)],[.row 3 1 0 Ab,.row 4 1 0 Ab]⟩
theorem ApK (L:LT) (p0:PT) (n:Nat) (f:Nat->E6) (q:Nat->Bool) (h0:GH n=true) (h10:Ct [.row 3 1 n (λ_=>iV 0)]=true) (hp0:p0 (ML (onP 0 p0 (YD n f n q) L)) (Vi n f)=true):(Ay (Aj tab ⟨A2 VL,onP 0 p0 (YD n f n q) L,Gl⟩ Tryz.f155 [AN n f] [])).sem=some ((.ref 0),[.row 3 1 n (λk=>iV (A8 q n k))]):=by
 exact Af (ks:=[kn hp0,kL n,kn h0,kn h10]) (by kernel_rfl)
theorem Ah5 (L:LT) (n:Nat) (f:Nat->E6) (h8:n * 8 <= 140737488355328):∀ (e i:Nat) (j:Nat->V) (q:Nat),n=i+e->e<q ->
  (A4 (ML L) (U6 n f) q (AeY n f i (JW (λk=>AG (f k)) i) j)).sem=some (YD n f n (JW (λk=>AG (f k)) n))
 | 0,i,j,q+1,h,_=>by
  have:n=i:=by omega
  subst this;exact Ah (Anu L n f _ _ j (Az (Nat.le_refl _)))
 | e+1,i,j,q+1,h,h2=>by
  have hl:i<n:=by omega
  have ha:C4 i 1 1=true:=Hf (by omega);rw [Ah (Ant L n f i (JW (λk=>AG (f k)) i) j (ofNat_lt hl) (Ae hl) ha),AY,A5 hl (by omega)];have:=QI (λk=>AG (f k)) i;rw [this];exact Ah5 L n f h8 e (i+1) Ab q (by omega) (by omega)
def Aep:List (Nat×List (Nat×V)):=[(0,[(1,bV false)])]
theorem AlC (n:Nat) (f:Nat->E6):L6 (Vi n f) [(1,bV false)]=AeY n f 0 (λ_=>false) (λi=>nth (Vi n f).t i):=by kernel_rfl
def Sp:List V->AA:=HL λn f=>.br (Dg n) (.leaf (.ref 0,[.row 3 1 n λk=>iV (A8 (λk=>AG (f k)) n k)])) .fail
theorem p95:As Tryz.prog Gl 155 Sp:=by
 refine Am A0 mixed Tryz.func155 (by kernel_rfl) (by kernel_rfl) λvs v h' h=>?_;obtain ⟨n,f,ha,h1⟩:=DC h;obtain ⟨hn,hq⟩:=Ad h1;have:=Aa hq;simp only [Prod.mk.injEq] at this;obtain ⟨rfl,rfl⟩:=this;have hx:=Xi X2 Aep [(0,U6 n f)];have hL:=M4 Aep [(0,U6 n f)];have h0:∀ L,(Ih Aep [(0,U6 n f)] 0 (ML L) (Vi n f)).sem=some (YD n f n (JW (λk=>AG (f k)) n)):=λL=>by
  show (A4 (ML L) (U6 n f) (n+1) (L6 (Vi n f) [(1,bV false)])).sem=_;rw [AlC,<- Ab1 (λk=>AG (f k))];exact Ah5 L n f (K4 hn) n 0 _ (n+1) (by omega) (by omega)
 have hw:=Bp (Bm hL hL) _ (ApK _ _ n f _ (Ht hn) EI (AB (h0 _)));rw [OA (λk=>AG (f k)) n] at hw;exact ⟨_,cxZ Gl VL Aep [(0,U6 n f)],_,ha,rfl,hx.1,hx.2,hw,Aw.refl _⟩
noncomputable def tb53:AE:=(79,mayT)::(154,Sq)::(155,Sp)::[]
theorem tb53_ok:Ar Tryz.prog Gl tb53:=.cons p98 <| .cons p94 <| .cons p95 .nil
def Lg (g:Nat->(Nat->E6)->Nat->Int):List V->AA:=HL λn f=>.br (Dg n) (match EM n f with
 | true=>.leaf (.tup [.ref 0,iV 0],[.row 3 1 n λk=>iV (g n f k)])
 | false=>.leaf (.tup [.ref 0,iV 30],[.row 3 1 0 λ_=>.und])) .fail
theorem p53:As Tryz.prog Gl 109 (Lg λn f=>A8 (λk=>A9 (f k)) n):=by
 refine Am A0 mixed Tryz.func109 (by kernel_rfl) (by kernel_rfl) λvs v h' h=>?_;obtain ⟨n,f,ha,h1⟩:=DC h;obtain ⟨hn,hq⟩:=Ad h1;have hx:=Bs tb53_ok [];have hs:Au n=true:=Adq (Ht hn);cases hm:EM n f with
 | true =>rw [hm] at hq;have:=Aa hq;simp only [Prod.mk.injEq] at this;obtain ⟨rfl,rfl⟩:=this;exact ⟨_,AT Gl tb53 [],_,ha,rfl,hx.1,hx.2,Af (ks:=[kL n,kn hs,kN (kn hm),kL n,kn hn]) (by kernel_rfl)/-W:w53t-/,Aw.refl _⟩
 | false =>rw [hm] at hq;have:=Aa hq;simp only [Prod.mk.injEq] at this;obtain ⟨rfl,rfl⟩:=this;exact ⟨_,AT Gl tb53 [],_,ha,rfl,hx.1,hx.2,Af (ks:=[kL n,kn hs,kN (kn hm)]) (by kernel_rfl)/-W:w53f-/,Aw.refl _⟩
theorem p54:As Tryz.prog Gl 110 (Lg λn f=>A8 (λk=>AG (f k)) n):=by
 refine Am A0 mixed Tryz.func110 (by kernel_rfl) (by kernel_rfl) λvs v h' h=>?_;obtain ⟨n,f,ha,h1⟩:=DC h;obtain ⟨hn,hq⟩:=Ad h1;have hx:=Bs tb53_ok [];have hs:Au n=true:=Adq (Ht hn);cases hm:EM n f with
 | true =>rw [hm] at hq;have:=Aa hq;simp only [Prod.mk.injEq] at this;obtain ⟨rfl,rfl⟩:=this;exact ⟨_,AT Gl tb53 [],_,ha,rfl,hx.1,hx.2,Af (ks:=[kL n,kn hs,kN (kn hm),kL n,kn hn]) (by kernel_rfl)/-W:w54t-/,Aw.refl _⟩
 | false =>rw [hm] at hq;have:=Aa hq;simp only [Prod.mk.injEq] at this;obtain ⟨rfl,rfl⟩:=this;exact ⟨_,AT Gl tb53 [],_,ha,rfl,hx.1,hx.2,Af (ks:=[kL n,kn hs,kN (kn hm)]) (by kernel_rfl)/-W:w54f-/,Aw.refl _⟩
end Go.Proofs.YtkbafjceglhjhaaGreatDoor.Ed
namespace Go.Proofs.YtkbafjceglhjhaaGreatDoor.Sh
open Go.Sy Ed
open Int (ofNat)
theorem AjC (e:E6):(Ay (Aj tab (AT Gl [] []) Tryz.f177 [eV e] [])).sem=(sel (ieq (e).kind 1) (sel (ieq (e).kind 1) (sel (ieq (e).kind 1) (sel (ieq (e).kind 1) (some ((bV true),[])) none) none) none) (sel (ieq (e).kind 1) (sel (ieq (e).kind 1) (sel (ieq (e).kind 1) (some ((bV true),[])) none) none) (sel (ieq (e).kind 1) (sel (ieq (e).kind 1) (some ((bV true),[])) none) (sel (ieq (e).kind 1) (some ((bV true),[])) (sel (ieq (e).kind 2) (sel (ieq (e).kind 2) (sel (ieq (e).kind 2) (sel (ieq (e).kind 2) (some ((bV true),[])) (some (AH,[]))) none) none) (sel (ieq (e).kind 2) (sel (ieq (e).kind 2) (sel (ieq (e).kind 2) (some ((bV true),[])) (some (AH,[]))) none) (sel (ieq (e).kind 2) (sel (ieq (e).kind 2) (some ((bV true),[])) (some (AH,[]))) (sel (ieq (e).kind 2) (some ((bV true),[])) (some ((bV (ieq (e).kind 3)),[])))))))))):=by kernel_rfl
theorem p91:As Tryz.prog Gl 177 (Cc λe=>bV (BJ e)):=by
 refine As.congr (AM A0 mixed Tryz.func177 (by kernel_rfl) (by kernel_rfl) (Γ:=AT Gl [] []) (Bs Ar.nil _)) λvs r h=>?_;obtain ⟨e,rfl,rfl⟩:=Cj h;refine (AjC e).trans ?_;rw [PC];cases ieq e.kind 1 <;> cases ieq e.kind 2 <;> cases ieq e.kind 3 <;> rfl
noncomputable def AaL:AE:=(177,Cc λe=>bV (BJ e))::[]
theorem X5:Ar Tryz.prog Gl AaL:=.cons p91 .nil
theorem AjI (e:E6):(Ay (Aj tab (AT Gl AaL []) Tryz.f139 [eV e] [])).sem=(sel (BJ e) (sel (BJ e) (sel (BJ e) (some ((bV (e).ext),[])) (some ((bV false),[]))) (sel (BJ e) (some (AH,[])) (some ((bV false),[])))) (sel (BJ e) none (sel (BJ e) (some (AH,[])) (some ((bV false),[]))))):=by kernel_rfl
theorem p52:As Tryz.prog Gl 139 (Cc λe=>bV (A9 e)):=by
 refine As.congr (AM A0 mixed Tryz.func139 (by kernel_rfl) (by kernel_rfl) (Γ:=AT Gl AaL []) (Bs X5 _)) λvs r h=>?_;obtain ⟨e,rfl,rfl⟩:=Cj h;refine (AjI e).trans ?_;unfold A9;cases BJ e <;> rfl
theorem AjH (e:E6):(Ay (Aj tab (AT Gl AaL []) Tryz.f141 [eV e] [])).sem=(sel (AV (BJ e)) (sel (AV (BJ e)) (sel (AV (BJ e)) (sel (AV (BJ e)) (some ((bV (AV (e).same)),[])) (some ((bV false),[]))) (sel (AV (BJ e)) (some (AH,[])) (some ((bV false),[])))) (sel (AV (BJ e)) none (sel (AV (BJ e)) (some (AH,[])) (some ((bV false),[]))))) (sel (AV (BJ e)) none (sel (AV (BJ e)) none (sel (AV (BJ e)) (some (AH,[])) (some ((bV false),[])))))):=by kernel_rfl
theorem p54:As Tryz.prog Gl 141 (Cc λe=>bV (AG e)):=by
 refine As.congr (AM A0 mixed Tryz.func141 (by kernel_rfl) (by kernel_rfl) (Γ:=AT Gl AaL []) (Bs X5 _)) λvs r h=>?_;obtain ⟨e,rfl,rfl⟩:=Cj h;refine (AjH e).trans ?_;unfold AG;cases BJ e <;> rfl
noncomputable def N9 (n:Nat) (f:Nat->Int) (x:Int):Int:=match (List.range n).find? λi=>ieq x (f i) with
 | some i=>ofNat i
 | none=>-1
theorem Ri {n:Nat} {f:Nat->Int} {x:Int} {i:Nat} (hi:i<n) (h:ieq x (f i)=true) (hb:∀ k,k<i->ieq x (f k)=false):N9 n f x=ofNat i:=by
 unfold N9;have:(List.range n).find? (λi=>ieq x (f i))=some i:=by
  rw [List.find?_range_eq_some];exact ⟨h,by simpa using hi,λj hj=>by rw [hb j hj]; rfl⟩
 rw [this]
theorem UQ {n:Nat} {f:Nat->Int} {x:Int} (h:∀ k,k<n->ieq x (f k)=false):N9 n f x = -1:=by
 unfold N9;have:(List.range n).find? (λi=>ieq x (f i))=none:=by
  rw [List.find?_eq_none];intro k hk;rw [h k (by simpa using hk)];simp
 rw [this]
def OR (n:Nat) (f:Nat->Int) (x:Int):Lp:=⟨bmK 19 0 [0,1,4,7,8],0,bmK 19 0 [4],0,n+1⟩
def RS (n:Nat) (f:Nat->Int) (x:Int) (b:Nat) (j:Nat->V):St:=⟨jsV 19 0 j [(0,.sl 1 n λk=>iV (f k)),(1,iV x),(4,iV 0),(7,nV n),(8,nV b)],[]⟩
def YF (n:Nat) (f:Nat->Int) (x:Int) (b:Nat):Ex×St:=(.rt,⟨jsV 19 0 Ab [(4,nV b)],[]⟩)
def YG (n:Nat) (f:Nat->Int) (x:Int) (b:Nat):Ex×St:=(.ex 0,⟨jsV 19 0 Ab [(4,iV 0)],[]⟩)
noncomputable def Iu (L:LT):St->T (Ex×St):=λst=>AK tab ⟨A2 tb0,L,Gl⟩ (A3 Tryz.f178 0) 0 st
section
variable (L:LT) (n:Nat) (f:Nat->Int) (x:Int) (b:Nat)  (j:Nat->V)
include L n f x b j
theorem Anb (h0:ilt (ofNat b) (ofNat n)=true) (h11:ile 0 (ofNat b)=true) (h1:ieq x (f b)=false):A1 (Iu L) (OR n f x) (RS n f x b j)=some (.nm,⟨jsV 19 0 Ab [(0,.sl 1 n (λk=>iV (f k))),(1,iV x),(4,iV 0),(7,nV n),(8,iV (wr .i64 (Ai (ofNat b) 1)))],[]⟩):=by
 exact Af (ks:=[kn h0,kA (kn h11) (kn h0),kn h1]) (by kernel_rfl)
theorem Ana (h0:ilt (ofNat b) (ofNat n)=true) (h11:ile 0 (ofNat b)=true) (h1:ieq x (f b)=true):A1 (Iu L) (OR n f x) (RS n f x b j)=some (.rt,⟨jsV 19 0 Ab [(4,nV b)],[]⟩):=by
 exact Af (ks:=[kn h0,kA (kn h11) (kn h0),kn h1]) (by kernel_rfl)
theorem Anc (h0:ilt (ofNat b) (ofNat n)=false):A1 (Iu L) (OR n f x) (RS n f x b j)=some ((.ex 0),⟨jsV 19 0 Ab [(4,iV 0)],[]⟩):=by
 exact Af (ks:=[kn h0]) (by kernel_rfl)
end
def Al1 (n:Nat) (f:Nat->Int) (x:Int) :Nat->V:=lkV AH [(6,.sl 1 n (λk=>iV (f k)))]
theorem Amn (L:LT) (p0:PT) (n:Nat) (f:Nat->Int) (x:Int) (b:Nat)  (hp0:p0 (Iu (onP 0 p0 (YF n f x b) L)) (RS n f x 0 (Al1 n f x ))=true):(Ay (Aj tab ⟨A2 tb0,onP 0 p0 (YF n f x b) L,Gl⟩ Tryz.f178 [.sl 1 n λk=>iV (f k),iV x] [])).sem=some ((nV b),[]):=by
 exact Af (ks:=[kn hp0]) (by kernel_rfl)
theorem Amo (L:LT) (p0:PT) (n:Nat) (f:Nat->Int) (x:Int)  (hp0:p0 (Iu (onP 0 p0 (YG n f x 0) L)) (RS n f x 0 (Al1 n f x ))=true):(Ay (Aj tab ⟨A2 tb0,onP 0 p0 (YG n f x 0) L,Gl⟩ Tryz.f178 [.sl 1 n λk=>iV (f k),iV x] [])).sem=some ((iV (-1)),[]):=by
 exact Af (ks:=[kn hp0]) (by kernel_rfl)
theorem Ah7 (L:LT) (n:Nat) (f:Nat->Int) (x:Int) (hn:n <= 4611686018427387904):∀ (e i:Nat) (j:Nat->V) (q:Nat),n=i+e->e<q->(∀ k,k<i->ieq x (f k)=false) ->
  ((A4 (Iu L) (OR n f x) q (RS n f x i j)).sem=some (YG n f x 0)∧N9 n f x = -1) ∨ ∃ b,(A4 (Iu L) (OR n f x) q (RS n f x i j)).sem=some (YF n f x b)∧N9 n f x=ofNat b
 | 0,i,j,q+1,h,_,hb=>by
  have:n=i:=by omega
  subst this;exact .inl ⟨Ah (Anc L n f x n j (Az (Nat.le_refl _))),UQ hb⟩
 | e+1,i,j,q+1,h,h2,hb=>by
  have hl:i<n:=by omega
  cases hp:ieq x (f i) with
  | true =>exact .inr ⟨i,Ah (Ana L n f x i j (ofNat_lt hl) (Cy i) hp),Ri hl hp hb⟩
  | false =>
   rw [Ah (Anb L n f x i j (ofNat_lt hl) (Cy i) hp),AY,A5 hl hn];refine Ah7 L n f x hn e (i+1) Ab q (by omega) (by omega) λk hk=>?_;by_cases hki:k=i
   ·rw [hki]; exact hp
   ·exact hb k (by omega)
noncomputable def WI:List V->AA
 | [v,.val (.int .i64 x)]=>apI v λn f=>.br (GH n) (.leaf (iV (N9 n f x),[])) .fail
 | _=>.fail
theorem p92:As Tryz.prog Gl 178 WI:=by
 refine Am A0 mixed Tryz.func178 (by kernel_rfl) (by kernel_rfl) λvs v h' h=>?_;unfold WI at h;split at h
 ·rename_i u x
  obtain ⟨n,f,ha,h1⟩:=FG h;obtain ⟨h8,hq⟩:=Ad h1;have:=Aa hq;simp only [Prod.mk.injEq] at this;obtain ⟨rfl,rfl⟩:=this;have h8':n * 8 <= 140737488355328:=of_decide_eq_true h8;have hA:Bw [u,iV x] [F6 n f,iV x]:=λS w cs hv=>by
   obtain ⟨c,l,rfl,q1,q2⟩:=hv;exact ⟨c,l,rfl,ha S w c q1,q2⟩
  have hx:=Bs C5 [(0,OR n f x)] (G:=Gl);have hL:=Bq [(0,OR n f x)];refine ⟨_,AT Gl tb0 [(0,OR n f x)],_,hA,rfl,hx.1,hx.2,?_,Aw.refl _⟩;have h0:=λL j=>Ah7 L n f x (by omega) n 0 j (n+1) (by omega) (by omega) (λk hk=>absurd hk (Nat.not_lt_zero _));rcases h0 (Cb [(0,OR n f x)]) (Al1 n f x) with ⟨_,h5⟩ | ⟨b,_,h5⟩
  ·have h6:∀ L j,(A4 (Iu L) (OR n f x) (n+1) (RS n f x 0 j)).sem=some (YG n f x 0):=λL j=>by
    rcases h0 L j with ⟨h,_⟩ | ⟨b,_,h⟩
    ·exact h
    ·rw [h5] at h
     cases h
   rw [h5];exact Bp (Bm hL hL) _ (Amo _ _ n f x (AB (h6 _ _)))
  ·have h6:∀ L j,(A4 (Iu L) (OR n f x) (n+1) (RS n f x 0 j)).sem=some (YF n f x b):=λL j=>by
    rcases h0 L j with ⟨_,h⟩ | ⟨b',h,h'⟩
    ·rw [h5] at h
     cases h
    ·rw [h5] at h'
     cases h';exact h
   rw [h5];exact Bp (Bm hL hL) _ (Amn _ _ n f x b (AB (h6 _ _)))
 ·cases h
end Go.Proofs.YtkbafjceglhjhaaGreatDoor.Sh
namespace Go.Proofs.YtkbafjceglhjhaaGreatDoor.Sh
open Go.Sy Ed
inductive Begin (p:Nat->Bool) (n:Nat):Nat->Prop
 | none:(∀ k,k<n->p k=false)->Begin p n 0
 | last:0<n->p (n-1)=true->Begin p n 0
 | first {z:Nat}:0<z->z<n->p (z-1)=true->(∀ k,k<z-1->p k=false)->p (n-1)=false->Begin p n z
theorem Gm {p:Nat->Bool}:∀ {k:Nat},(∀ i,i<k->p i=false)->Al p k=0
 | 0,_=>rfl
 | k+1,h=>by rw [BL (h k (Nat.lt_succ_self k)),Gm λi hi=>h i (by omega)]
theorem HF (p:Nat->Bool) (k:Nat):Al p (k+1)=Al p k ∨ Al p (k+1)=Al p k+1:=by
 cases h:p k with
 | true=>exact .inr (Bz h)
 | false=>exact .inl (BL h)
def Gu (p:Nat->Bool) (n z t:Nat):Bool:=p ((z+t) % n)
theorem HE {p:Nat->Bool} {n z:Nat}:∀ {t:Nat},z+t <= n->Al (Gu p n z) t+Al p z=Al p (z+t)
 | 0,_=>by simp [Al]
 | t+1,h=>by
  have ih:=HE (p:=p) (n:=n) (z:=z) (t:=t) (by omega);have he:Gu p n z t=p (z+t):=by unfold Gu; rw [Nat.mod_eq_of_lt (by omega)]
  rw [show z+(t+1)=z+t+1 by omega];cases hp:p (z+t) with
  | true=>rw [Bz (he.trans hp),Bz hp]; omega
  | false=>rw [BL (he.trans hp),BL hp]; exact ih
theorem Rv {p:Nat->Bool} {n z:Nat} (hz:z <= n):∀ {i:Nat},i <= z->Al (Gu p n z) (n-z+i)+Al p z=Al p n+Al p i
 | 0,_=>by
  have:=HE (p:=p) (n:=n) (z:=z) (t:=n-z) (by omega);rw [show z+(n-z)=n by omega] at this;simpa [Al] using this
 | i+1,h=>by
  have ih:=Rv (p:=p) (n:=n) (z:=z) hz (i:=i) (by omega);have he:Gu p n z (n-z+i)=p i:=by
   unfold Gu;rw [show z+(n-z+i)=i+n by omega,Nat.add_mod_right,Nat.mod_eq_of_lt (by omega)]
  rw [show n-z+(i+1)=n-z+i+1 by omega];cases hp:p i with
  | true=>rw [Bz (he.trans hp),Bz hp]; omega
  | false=>rw [BL (he.trans hp),BL hp]; exact ih
def posN (n z i:Nat):Nat:=(i+(n-z)) % n
def Bg (p:Nat->Bool) (n k:Nat):Nat:=if Al p k=Al p n then 0 else Al p k
theorem FZ {p:Nat->Bool} {n k:Nat} (h:k<n):A8 p n k=Int.ofNat (Bg p n k):=by
 unfold A8 Bg;rw [show decide (k<n)=true by simpa using h];simp only [cond_true];by_cases he:Al p k=Al p n
 ·simp [he]
 ·simp [he]
def snN (p:Nat->Bool) (n z v:Nat):Nat:=if z=0 then v else if v=0 then Al p n-1 else v-1
theorem Afu {p:Nat->Bool} {n z:Nat} (hb:Begin p n z) {i:Nat} (hi:i<n):Al (Gu p n z) (posN n z i)=snN p n z (Bg p n i):=by
 have hmi:=Ba p (show i <= n by omega);cases hb with
 | none h0 =>
  have h1:Al p n=0:=Gm h0;have h2:posN n 0 i=i:=by unfold posN; rw [Nat.sub_zero,Nat.add_mod_right,Nat.mod_eq_of_lt hi]
  have h3:=HE (p:=p) (n:=n) (z:=0) (t:=i) (by omega);rw [Nat.zero_add] at h3;rw [h2];unfold snN Bg;rw [if_pos rfl,h1];simp [Al] at h3;rw [h3];split <;> omega
 | last hn h0 =>
  have h2:posN n 0 i=i:=by unfold posN; rw [Nat.sub_zero,Nat.add_mod_right,Nat.mod_eq_of_lt hi]
  have h3:=HE (p:=p) (n:=n) (z:=0) (t:=i) (by omega);rw [Nat.zero_add] at h3;have h4:Al p n=Al p (n-1)+1:=by
   have:=Bz h0;rwa [show n-1+1=n by omega] at this
  have h5:=Ba p (show i <= n-1 by omega);rw [h2];unfold snN Bg;rw [if_pos rfl];simp [Al] at h3;rw [h3,if_neg (by omega)]
 | first hz hzn h0 h1 h2 =>
  have c0:Al p (z-1)=0:=Gm h1;have c1:Al p z=1:=by
   have:=Bz h0;rwa [show z-1+1=z by omega,c0] at this
  have hK:=Ba p (show z <= n by omega);unfold snN Bg;rw [if_neg (by omega)];rcases Nat.lt_or_ge i z with hc | hc
  ·have e1:posN n z i=n-z+i:=by unfold posN; rw [Nat.mod_eq_of_lt (by omega)]; omega
   have e2:=Rv (p:=p) (n:=n) (z:=z) (by omega) (i:=i) (by omega);have e3:Al p i=0:=Gm λk hk=>h1 k (by omega);have e4:(if Al p i=Al p n then 0 else Al p i)=0:=by split <;> omega
   rw [e1,if_pos e4];omega
  ·have e1:posN n z i=i-z:=by unfold posN; rw [show i+(n-z)=i-z+n by omega,Nat.add_mod_right,Nat.mod_eq_of_lt (by omega)]
   have e2:=HE (p:=p) (n:=n) (z:=z) (t:=i-z) (by omega);rw [show z+(i-z)=i by omega] at e2;have e3:=Ba p hc;rw [e1];by_cases he:Al p i=Al p n
   ·rw [if_pos he,if_pos rfl]; omega
   ·rw [if_neg he,if_neg (by omega:¬ Al p i=0)]; omega
theorem Abb {p:Nat->Bool} {n z u v:Nat} (hu:u <= v) (hv:v=0 ∨ v<Al p n) (h:snN p n z u=snN p n z v):u=v:=by
 unfold snN at h;split at h
 ·exact h
 ·split at h <;> split at h <;> omega
def rN (p:Nat->Bool) (n:Nat):Nat->Nat
 | 0=>0
 | b+1=>if Bg p n b<rN p n b then rN p n b else rN p n b+1
theorem Lh {p:Nat->Bool} {n k:Nat} (h:k <= n):Bg p n k=0 ∨ Bg p n k<Al p n:=by
 have:=Ba p h;unfold Bg;split
 ·exact .inl rfl
 ·exact .inr (by omega)
theorem AbI (p:Nat->Bool) (n:Nat):Bg p n 0=0:=by
 have h:Al p 0=0:=rfl;unfold Bg;split
 ·rfl
 ·exact h
theorem Ab8 (p:Nat->Bool) (n:Nat):∀ b,b<n->rN p n (b+1)=if Al p b=Al p n then max (Al p n) 1 else Al p b+1
 | 0,h=>by
  have h1:rN p n (0+1)=1:=by
   rw [rN,AbI];simp [rN]
  have h2:Al p 0=0:=rfl;rw [h1,h2];split <;> omega
 | b+1,h=>by
  have ih:=Ab8 p n b (by omega);have h1:=Ba p (show b+1 <= n by omega);have h2:=Ba p (show b <= n by omega);have h3:=Ba p (show b <= b+1 by omega);have h4:=HF p b;rw [rN,ih];unfold Bg;by_cases e1:Al p (b+1)=Al p n
  ·rw [if_pos e1,if_pos e1]
   by_cases e2:Al p b=Al p n
   ·rw [if_pos e2,if_pos (by omega)]
   ·rw [if_neg e2,if_pos (by omega)]; omega
  ·rw [if_neg e1,if_neg e1]
   have e2:¬ Al p b=Al p n:=by omega
   rw [if_neg e2];split <;> omega
theorem NI (p:Nat->Bool) (n:Nat):∀ b,b<n->Bg p n b <= rN p n b
 | 0,h=>by
  rw [AbI];exact Nat.zero_le _
 | b+1,h=>by
  rw [Ab8 p n b (by omega)];have h1:=Ba p (show b+1 <= n by omega);have h4:=HF p b;have h3:=Ba p (show b <= b+1 by omega);unfold Bg;split
  ·omega
  ·split <;> omega
theorem Uq (p:Nat->Bool) (n:Nat):∀ b,rN p n b <= b
 | 0=>Nat.le_refl _
 | b+1=>by
  have:=Uq p n b;simp only [rN];split <;> omega
theorem AhC (p:Nat->Bool) (n:Nat):∀ b,b <= n->∀ v,v<rN p n b->v=0 ∨ v<Al p n
 | 0,_,v,h=>by simp [rN] at h
 | b+1,hb,v,h=>by
  have ih:=AhC p n b (by omega) v;simp only [rN] at h;split at h
  ·exact ih h
  ·rename_i h2
   have h3:=NI p n b (by omega);by_cases hv:v<rN p n b
   ·exact ih hv
   ·have:v=Bg p n b:=by omega
    rw [this];exact Lh (by omega)
end Go.Proofs.YtkbafjceglhjhaaGreatDoor.Sh
