/-
  The document's parts, threads, locations: the part of each edge. No conditions.
-/
import Derived.Test.YtkbgidbledjejaaGreatEnE
namespace Go.Proofs.YtkbgidbledjejaaGreat.Ed
open Go.Sy
set_option maxHeartbeats 4000000
open Int (ofNat)
def Si (n:Nat) (p:Nat->Bool):Lp:=⟨bmK 57 0 [0,3,4,5],2,bmK 57 0 [0,3,4],2,n+1⟩
def UF (n:Nat) (p:Nat->Bool) (s:Int) (i:Nat) (h:Nat->Int) (j:Nat->V):St:=⟨jsV 57 0 j [(0,.sl 1 n (λk=>bV (p k))),(3,.ref 1),(4,iV s),(5,nV i)],[.row 3 1 0 Ac,.row 3 1 i (λk=>iV (h k))]⟩
def He (n:Nat) (p:Nat->Bool) (s:Int) (i:Nat) (h:Nat->Int):Ex×St:=(.ex 0,⟨jsV 57 0 Ac [(0,.sl 1 n (λk=>bV (p k))),(3,.ref 1),(4,iV s)],[.row 3 1 0 Ac,.row 3 1 i (λk=>iV (h k))]⟩)
noncomputable def FP (L:LT):St->T (Ex×St):=λst=>A8 tab ⟨A9 tb0,L,Gl⟩ (A1 Tryz.f78 0) 0 st
section
variable (L:LT) (n:Nat) (p:Nat->Bool) (s:Int) (i:Nat) (h:Nat->Int)  (j:Nat->V)
include L n p s i h j
theorem AiD (h0:ilt (ofNat i) (ofNat n)=false):Ap (FP L) (Si n p) (UF n p s i h j)=some ((.ex 0),⟨jsV 57 0 Ac [(0,.sl 1 n (λk=>bV (p k))),(3,.ref 1),(4,iV s)],[.row 3 1 0 Ac,.row 3 1 i (λk=>iV (h k))]⟩):=by
 exact Ag (ks:=[kn h0]) (by kernel_rfl)
theorem AiB (h0:ilt (ofNat i) (ofNat n)=true) (h2:CJ i 1 8=true) (h1:Av (ile 0 (ofNat i)) (ilt (ofNat i) (ofNat n))=true) (h3:p i=true):Ap (FP L) (Si n p) (UF n p s i h j)=some (.nm,⟨jsV 57 0 Ac [(0,.sl 1 n (λk=>bV (p k))),(3,.ref 1),(4,iV (wr .i64 (Am s 1))),(5,iV (wr .i64 (Am (ofNat i) 1)))],[.row 3 1 0 Ac,.row 3 1 (Cd i 1) (AE i (λk=>iV (h k)) (iV s))]⟩):=by
 exact Ag (ks:=[kn h0,kn h2,kn h1,kn h3]) (by kernel_rfl)
theorem AiC (h0:ilt (ofNat i) (ofNat n)=true) (h2:CJ i 1 8=true) (h1:Av (ile 0 (ofNat i)) (ilt (ofNat i) (ofNat n))=true) (h3:p i=false):Ap (FP L) (Si n p) (UF n p s i h j)=some (.nm,⟨jsV 57 0 Ac [(0,.sl 1 n (λk=>bV (p k))),(3,.ref 1),(4,iV s),(5,iV (wr .i64 (Am (ofNat i) 1)))],[.row 3 1 0 Ac,.row 3 1 (Cd i 1) (AE i (λk=>iV (h k)) (iV s))]⟩):=by
 exact Ag (ks:=[kn h0,kn h2,kn h1,kn h3]) (by kernel_rfl)
end
def J5 (n:Nat) (p:Nat->Bool) :St:=⟨jsV 57 0 (λ_=>A7) [(0,.sl 1 n (λk=>bV (p k))),(2,.ref 0),(3,.ref 1),(4,iV 0),(5,iV 0)],[.row 3 1 0 Ac,.row 3 1 0 Ac]⟩
def LS (n:Nat) (p:Nat->Bool):Lp:=⟨bmK 57 0 [0,3,7],2,bmK 57 0 [3],2,n+1⟩
def Ly (n:Nat) (p:Nat->Bool) (d:Int) (g:Nat->Int) (j:Nat->V):St:=⟨jsV 57 0 j [(0,.sl 1 n (λk=>bV (p k))),(3,.ref 1),(7,iV d)],[.row 3 1 0 Ac,.row 3 1 n (λk=>iV (g k))]⟩
def Mo (n:Nat) (p:Nat->Bool) (d:Int) (g:Nat->Int):Ex×St:=(.ex 2,⟨jsV 57 0 Ac [(3,.ref 1)],[.row 3 1 0 Ac,.row 3 1 n (λk=>iV (g k))]⟩)
noncomputable def Iq (L:LT):St->T (Ex×St):=λst=>A8 tab ⟨A9 tb0,L,Gl⟩ (A1 Tryz.f78 2) 2 st
section
variable (L:LT) (n:Nat) (p:Nat->Bool) (d:Int) (g:Nat->Int)  (j:Nat->V)
include L n p d g j
theorem Ai1 (h0:ile 0 d=false):Ap (Iq L) (LS n p) (Ly n p d g j)=some ((.ex 2),⟨jsV 57 0 Ac [(3,.ref 1)],[.row 3 1 0 Ac,.row 3 1 n (λk=>iV (g k))]⟩):=by
 exact Ag (ks:=[kn h0,kn h0,kn h0,kn h0,kn h0,kn h0,kF]) (by kernel_rfl)
theorem Ai0 (h0:ile 0 d=true) (h1:Av (ile 0 d) (ilt d (ofNat n))=true) (h3:p (toN d)=true):Ap (Iq L) (LS n p) (Ly n p d g j)=some ((.ex 2),⟨jsV 57 0 Ac [(3,.ref 1)],[.row 3 1 0 Ac,.row 3 1 n (λk=>iV (g k))]⟩):=by
 exact Ag (ks:=[kn h0,kn h0,kn h0,kn h1,kn h0,kn h0,kn h0,kN (kn h3)]) (by kernel_rfl)
theorem Aiz (h0:ile 0 d=true) (h1:Av (ile 0 d) (ilt d (ofNat n))=true) (h3:p (toN d)=false) (h2:nlt (toN d) n=true):Ap (Iq L) (LS n p) (Ly n p d g j)=some (.nm,⟨jsV 57 0 Ac [(0,.sl 1 n (λk=>bV (p k))),(3,.ref 1),(7,iV (wr .i64 (Ax d 1)))],[.row 3 1 0 Ac,.row 3 1 n (BJ (λk=>iV (g k)) (toN d) (iV 0))]⟩):=by
 exact Ag (ks:=[kn h0,kn h0,kn h0,kn h1,kn h0,kn h0,kn h0,kN (kn h3),kn h1,kn h2]) (by kernel_rfl)
end
def AfR (n:Nat) (p:Nat->Bool) (s:Int) (g:Nat->Int):Nat->V:=lkU 144110790046121766 [(4,iV s),(6,nV n),(24,.sl 1 n (λk=>bV (p k))),(25,nV n),(26,nV n),(27,bV (ilt 0 (ofNat n))),(28,bV (ilt 0 (ofNat n))),(29,iV s),(30,bV (ilt 0 s)),(31,bV (ilt 0 s)),(32,bV (ilt 0 s)),(33,.sl 1 n (λk=>bV (p k))),(34,nV n),(35,iV (wr .i64 (Ax (ofNat n) 1))),(36,.pp (bV (p (toN (wr .i64 (Ax (ofNat n) 1)))))),(37,bV (p (toN (wr .i64 (Ax (ofNat n) 1))))),(38,bV (AI (p (toN (wr .i64 (Ax (ofNat n) 1)))))),(39,bV (AI (p (toN (wr .i64 (Ax (ofNat n) 1)))))),(40,nV n),(41,iV (wr .i64 (Ax (ofNat n) 1)))]
section
variable (L:LT) (p0:PT) (n:Nat) (p:Nat->Bool) (s:Int) (g:Nat->Int)
include L p0 n p s g
theorem AhJ (h0:ilt 0 (ofNat n)=false) (hp0:p0 (FP (onP 0 p0 (He n p s n g) L)) (J5 n p)=true):(AM (Au tab ⟨A9 tb0,onP 0 p0 (He n p s n g) L,Gl⟩ Tryz.f78 [.sl 1 n (λk=>bV (p k))] [])).sem=some ((.ref 0),[.row 3 1 n (λk=>iV (g k))]):=by
 exact Ag (ks:=[kn hp0,kn h0,kn h0,kn h0,kF,kF,kF,kF,kF,kF,kF,kF]) (by kernel_rfl)
theorem AhI (h0:ilt 0 (ofNat n)=true) (h1:ilt 0 s=false) (hp0:p0 (FP (onP 0 p0 (He n p s n g) L)) (J5 n p)=true):(AM (Au tab ⟨A9 tb0,onP 0 p0 (He n p s n g) L,Gl⟩ Tryz.f78 [.sl 1 n (λk=>bV (p k))] [])).sem=some ((.ref 0),[.row 3 1 n (λk=>iV (g k))]):=by
 exact Ag (ks:=[kn hp0,kn h0,kn h0,kn h0,kn h1,kn h1,kn h1,kn h1,kn h1,kn h1,kn h1,kF]) (by kernel_rfl)
theorem AhH (h0:ilt 0 (ofNat n)=true) (h1:ilt 0 s=true) (h2:Av (ile 0 (wr .i64 (Ax (ofNat n) 1))) (ilt (wr .i64 (Ax (ofNat n) 1)) (ofNat n))=true) (h3:p (toN (wr .i64 (Ax (ofNat n) 1)))=true) (hp0:p0 (FP (onP 0 p0 (He n p s n g) L)) (J5 n p)=true):(AM (Au tab ⟨A9 tb0,onP 0 p0 (He n p s n g) L,Gl⟩ Tryz.f78 [.sl 1 n (λk=>bV (p k))] [])).sem=some ((.ref 0),[.row 3 1 n (λk=>iV (g k))]):=by
 exact Ag (ks:=[kn hp0,kn h0,kn h0,kn h0,kn h1,kn h1,kn h1,kn h1,kn h2,kn h1,kn h1,kn h1,kN (kn h3)]) (by kernel_rfl)
end
theorem AhG (L:LT) (p0:PT) (p2:PT) (n:Nat) (p:Nat->Bool) (s:Int) (g:Nat->Int) (d:Int) (u:Nat->Int) (h0:ilt 0 (ofNat n)=true) (h1:ilt 0 s=true) (h2:Av (ile 0 (wr .i64 (Ax (ofNat n) 1))) (ilt (wr .i64 (Ax (ofNat n) 1)) (ofNat n))=true) (h3:p (toN (wr .i64 (Ax (ofNat n) 1)))=false) (hp0:p0 (FP (onP 0 p0 (He n p s n g) (onP 2 p2 (Mo n p d u) L))) (J5 n p)=true) (hp2:p2 (Iq (onP 0 p0 (He n p s n g) (onP 2 p2 (Mo n p d u) L))) (Ly n p (wr .i64 (Ax (ofNat n) 1)) g (AfR n p s g))=true):(AM (Au tab ⟨A9 tb0,onP 0 p0 (He n p s n g) (onP 2 p2 (Mo n p d u) L),Gl⟩ Tryz.f78 [.sl 1 n (λk=>bV (p k))] [])).sem=some ((.ref 0),[.row 3 1 n (λk=>iV (u k))]):=by
 exact Ag (ks:=[kn hp0,kn h0,kn h0,kn h0,kn h1,kn h1,kn h1,kn h1,kn h2,kn h1,kn h1,kn h1,kN (kn h3),kn hp2]) (by kernel_rfl)
theorem UT (p:Nat->Bool) (i:Nat):AE i (λk=>iV (D8 p i k)) (iV (ofNat (AC p i)))=λk=>iV (D8 p (i+1) k):=by
 funext k;rw [Ca,show Nat.beq k i=decide (k=i) by rw [Bool.eq_iff_iff]; simp];unfold D8;by_cases h:k=i
 ·subst h; simp
 ·by_cases h2:k<i
  ·have:k<i+1:=by omega
   simp [h,h2,this]
  ·have:¬ k<i+1:=by omega
   simp [h,h2,this]
theorem Nw {p:Nat->Bool} {i:Nat} (h:p i=true):AC p (i+1)=AC p i+1:=by rw [AC,h]
theorem Nx {p:Nat->Bool} {i:Nat} (h:p i=false):AC p (i+1)=AC p i:=by rw [AC,h]
theorem WP (L:LT) (n:Nat) (p:Nat->Bool) (h8:n * 8 <= 140737488355328):∀ (e i:Nat) (j:Nat->V) (q:Nat),n=i+e->e<q ->
  (Ay (FP L) (Si n p) q (UF n p (ofNat (AC p i)) i (D8 p i) j)).sem=some (He n p (ofNat (AC p n)) n (D8 p n))
 | 0,i,j,q+1,h,_=>by
  have:n=i:=by omega
  subst this;exact Ae (AiD L n p _ _ _ j (A4 (Nat.le_refl _)))
 | e+1,i,j,q+1,h,h2=>by
  have hc:=EK p i;have hl:i<n:=by omega
  have ha:CJ i 1 8=true:=Wk (by omega);cases hp:p i with
  | true =>rw [Ae (AiB L n p (ofNat (AC p i)) i (D8 p i) j (ofNat_lt hl) ha (Af hl) hp),AS,Bc hl (by omega),Bc (show AC p i<n by omega) (by omega),<- Nw hp,UT p i];exact WP L n p h8 e (i+1) Ac q (by omega) (by omega)
  | false =>rw [Ae (AiC L n p (ofNat (AC p i)) i (D8 p i) j (ofNat_lt hl) ha (Af hl) hp),AS,Bc hl (by omega),UT p i,<- Nx hp];exact WP L n p h8 e (i+1) Ac q (by omega) (by omega)
set_option maxHeartbeats 4000000 in
theorem Yl (L:LT) (n:Nat) (p:Nat->Bool) (hn:n <= 4611686018427387904) (hs:0<AC p n):∀ (D:Nat) (j:Nat->V) (q:Nat),D <= n->D<q->(∀ k,D <= k->k<n->AC p k=AC p n) ->
  (Ay (Iq L) (LS n p) q (Ly n p (dn D) (D8 p D) j)).sem=some (Mo n p 0 (Br p n))
 | 0,j,q+1,h,_,hb=>by
  rw [<- LL p n 0 h (λk hk=>absurd hk (Nat.not_lt_zero _)) hb];exact Ae (Ai1 L n p (dn 0) (D8 p 0) j rfl)
 | D+1,j,q+1,h,h2,hb=>by
  have hD:D<n:=by omega
  have hk:nlt D n=true:=by simpa [nlt] using hD
  cases hp:p D with
  | false =>
   have he:AC p D=AC p n:=by
    rw [<- Nx hp];by_cases h5:D+1=n
    ·rw [h5]
    ·exact hb (D+1) (Nat.le_refl _) (by omega)
   rw [show dn (D+1)=ofNat D from rfl,Ae (Aiz L n p (ofNat D) (D8 p (D+1)) j (Hu D) (Af hD) hp hk),AS,Za (show D <= n by omega) hn,Tb,show toN (ofNat D)=D from rfl,Ry];exact Yl L n p hn hs D Ac q (by omega) (by omega) λk h3 h4=>by
    by_cases h5:k=D
    ·subst h5; exact he
    ·exact hb k (by omega) h4
  | true =>
   have h6:AC p D<AC p n:=by
    have:=FH p (show D+1 <= n by omega);rw [Nw hp] at this;omega
   rw [<- LL p n (D+1) h (λk hk=>by have:=FH p (show k <= D by omega); omega) hb];rw [show dn (D+1)=ofNat D from rfl];exact Ae (Ai0 L n p (ofNat D) (D8 p (D+1)) j (Hu D) (Af hD) hp)
def U4:List (Nat×List (Nat×V)):=[(0,[(1,iV 0)])]
def PD (n:Nat) (p:Nat->Bool):List (Nat×Lp):=[(0,Si n p),(2,LS n p)]
def MN:List V->A3
 | [v]=>apB v λn p=>.br (Nr n) (.leaf (.ref 0,[.row 3 1 n λk=>iV (Br p n k)])) .fail
 | _=>.fail
theorem Age (n:Nat) (p:Nat->Bool):Mk (J5 n p) [(1,iV 0)]=UF n p 0 0 (λ_=>0) (λi=>nth (J5 n p).t i):=by kernel_rfl
theorem AeF (n:Nat) (p:Nat->Bool) (h8:Nr n=true) :
  (AM (Au tab (cxZ Gl tb0 U4 (PD n p)) Tryz.f78 [XT n p] [])).sem=some (.ref 0,[.row 3 1 n λk=>iV (Br p n k)]):=by
 have h8':n * 8 <= 140737488355328:=of_decide_eq_true h8;have hn:n <= 4611686018427387904:=by omega
 have hL:=Ng U4 (PD n p);have h0:∀ L,(IB U4 (PD n p) 0 (FP L) (J5 n p)).sem=some (He n p (ofNat (AC p n)) n (D8 p n)):=λL=>by
  show (Ay (FP L) (Si n p) (n+1) (Mk (J5 n p) [(1,iV 0)])).sem=_;rw [Age,<- AbV p];exact WP L n p h8' n 0 _ (n+1) (by omega) (by omega)
 cases n with
 | zero =>rw [<- WZ p 0 rfl];exact Bw (B9 hL hL) _ (AhJ _ _ 0 p _ _ rfl (AW (h0 _)))
 | succ m =>
  have c0:ilt 0 (ofNat (m+1))=true:=by rw [show (0:Int)=ofNat 0 from rfl,FM]; simp
  have e1:wr .i64 (Ax (ofNat (m+1)) 1)=ofNat m:=Za (Nat.le_refl _) hn;have e2:toN (ofNat m)=m:=rfl;cases hs:ilt 0 (ofNat (AC p (m+1))) with
  | false =>
   have hz:AC p (m+1)=0:=by simpa [ilt] using hs
   have hw:=Bw (B9 hL hL) _ (AhI _ _ (m+1) p _ _ c0 hs (AW (h0 _)));rw [<- WZ p (m+1) hz];exact hw
  | true =>
   have hz:0<AC p (m+1):=by simpa [ilt] using hs
   have hb:Av (ile 0 (wr .i64 (Ax (ofNat (m+1)) 1))) (ilt (wr .i64 (Ax (ofNat (m+1)) 1)) (ofNat (m+1)))=true:=by rw [e1]; exact Af (Nat.lt_succ_self m)
   cases hp:p m with
   | true =>have hw:=Bw (B9 hL hL) _ (AhH _ _ (m+1) p _ _ c0 hs hb (by rw [e1,e2]; exact hp) (AW (h0 _)));rw [<- LL p (m+1) (m+1) (Nat.le_refl _) (λk hk=>by have:=FH p (show k <= m by omega); rw [Nw hp]; omega) (λk h1 h2=>by omega)];exact hw
   | false =>have h2:=λL j=>Yl L (m+1) p hn hz (m+1) j (m+2) (Nat.le_refl _) (by omega) (λk h1 h2=>by omega);rw [show dn (m+1)=ofNat m from rfl,<- e1] at h2;exact Bw (B9 (B9 hL hL) hL) _ (AhG _ _ _ (m+1) p _ (D8 p (m+1)) 0 (Br p (m+1)) c0 hs hb (by rw [e1,e2]; exact hp) (AW (h0 _)) (AW (h2 _ _)))
theorem Aoa:Ar Tryz.prog Gl 78 MN:=by
 refine Ah A0 mixed Tryz.func78 (by kernel_rfl) (by kernel_rfl) λvs v h' h=>?_;unfold MN at h;split at h
 ·rename_i u
  obtain ⟨n,p,ha,h1⟩:=Aeo h;obtain ⟨h8,hq⟩:=Ab h1;have:=Aa hq;simp only [Prod.mk.injEq] at this;obtain ⟨rfl,rfl⟩:=this;have hA:B2 [u] [XT n p]:=λS w cs hv=>by
   obtain ⟨c,l,rfl,q1,q2⟩:=hv;exact ⟨c,l,rfl,ha S w c q1,q2⟩
  have hx:=XE H3 U4 (PD n p);exact ⟨_,cxZ Gl tb0 U4 (PD n p),_,hA,rfl,hx.1,hx.2,AeF n p h8,As.refl _⟩
 ·cases h
theorem NH {n:Nat}:Cf [.row 3 1 n (λ_=>iV 0)]=true:=by
 simp [Cf,N1,iV]
noncomputable def W4:AD:=(47,Cj λe=>bV (BW e))::(48,Cj λe=>bV (BK e))::(78,MN)::[]
theorem Yd:Al Tryz.prog Gl W4:=.cons p60 <| .cons p61 <| .cons Aoa .nil
def Kp (p:Nat->Bool) (i k:Nat):Bool:=decide (k<i) && p k
theorem AbU (p:Nat->Bool):Kp p 0=λ_=>false:=by
 funext k;simp [Kp]
theorem RQ (p:Nat->Bool) (i:Nat):AE i (λk=>bV (Kp p i k)) (bV (p i))=λk=>bV (Kp p (i+1) k):=by
 funext k;rw [Ca,show Nat.beq k i=decide (k=i) by rw [Bool.eq_iff_iff]; simp];unfold Kp;by_cases h:k=i
 ·subst h; simp
 ·by_cases h2:k<i
  ·have:k<i+1:=by omega
   simp [h,h2,this]
  ·have:¬ k<i+1:=by omega
   simp [h,h2,this]
theorem Ej {p q:Nat->Bool}:∀ k,(∀ i,i<k->q i=p i)->AC q k=AC p k
 | 0,_=>rfl
 | k+1,h=>by
  rw [AC,AC,h k (Nat.lt_succ_self k),Ej k λi hi=>h i (by omega)]
theorem Py (p:Nat->Bool) (n:Nat):Br (Kp p n) n=Br p n:=by
 have hq:∀ i,i<n->Kp p n i=p i:=λi hi=>by simp [Kp,hi]
 funext k;unfold Br;by_cases h:k<n
 ·rw [Ej k λi hi=>hq i (by omega),Ej n hq]
 ·simp [h]
theorem KY {n:Nat} (h:BZ n=true):n * 8 <= 140737488355328:=of_decide_eq_true (HJ h)
def Vm (n:Nat) (f:Nat->E6):Lp:=⟨bmK 21 0 [0,3,4],2,bmK 21 0 [3],2,n+1⟩
def Afo (n:Nat) (f:Nat->E6) (i:Nat) (h:Nat->Bool) (j:Nat->V):St:=⟨jsV 21 0 j [(0,.sl 6 n (λi=>eV (f i))),(3,.ref 1),(4,nV i)],[.row 3 1 0 Ac,.row 4 1 i (λk=>bV (h k))]⟩
def YZ (n:Nat) (f:Nat->E6) (i:Nat) (h:Nat->Bool):Ex×St:=(.ex 0,⟨jsV 21 0 Ac [(3,.ref 1)],[.row 3 1 0 Ac,.row 4 1 i (λk=>bV (h k))]⟩)
noncomputable def Nz (L:LT):St->T (Ex×St):=λst=>A8 tab ⟨A9 W4,L,Gl⟩ (A1 Tryz.f49 0) 0 st
section
variable (L:LT) (n:Nat) (f:Nat->E6) (i:Nat) (h:Nat->Bool)  (j:Nat->V)
include L n f i h j
theorem Al3 (h0:ilt (ofNat i) (ofNat n)=false):Ap (Nz L) (Vm n f) (Afo n f i h j)=some ((.ex 0),⟨jsV 21 0 Ac [(3,.ref 1)],[.row 3 1 0 Ac,.row 4 1 i (λk=>bV (h k))]⟩):=by
 exact Ag (ks:=[kn h0]) (by kernel_rfl)
theorem Al2 (h0:ilt (ofNat i) (ofNat n)=true) (h1:Av (ile 0 (ofNat i)) (ilt (ofNat i) (ofNat n))=true) (h2:CJ i 1 1=true):Ap (Nz L) (Vm n f) (Afo n f i h j)=some (.nm,⟨jsV 21 0 Ac [(0,.sl 6 n (λi=>eV (f i))),(3,.ref 1),(4,iV (wr .i64 (Am (ofNat i) 1)))],[.row 3 1 0 Ac,.row 4 1 (Cd i 1) (AE i (λk=>bV (h k)) (bV (BW (f i))))]⟩):=by
 exact Ag (ks:=[kn h0,kn h1,kn h2]) (by kernel_rfl)
end
def VU (n:Nat) (f:Nat->E6) :St:=⟨jsV 21 0 (λ_=>A7) [(0,.sl 6 n (λi=>eV (f i))),(2,.ref 0),(3,.ref 1),(4,iV 0)],[.row 3 1 0 Ac,.row 4 1 0 Ac]⟩
theorem Ans (L:LT) (p0:PT) (n:Nat) (f:Nat->E6) (q:Nat->Bool) (h0:Nr n=true) (h10:Cf [.row 3 1 n (λ_=>iV 0)]=true) (hp0:p0 (Nz (onP 0 p0 (YZ n f n q) L)) (VU n f)=true):(AM (Au tab ⟨A9 W4,onP 0 p0 (YZ n f n q) L,Gl⟩ Tryz.f49 [Ao n f] [])).sem=some ((.ref 0),[.row 3 1 n (λk=>iV (Br q n k))]):=by
 exact Ag (ks:=[kn hp0,kL n,kn h0,kn h10]) (by kernel_rfl)
theorem AgK (L:LT) (n:Nat) (f:Nat->E6) (h8:n * 8 <= 140737488355328):∀ (e i:Nat) (j:Nat->V) (q:Nat),n=i+e->e<q ->
  (Ay (Nz L) (Vm n f) q (Afo n f i (Kp (λk=>BW (f k)) i) j)).sem=some (YZ n f n (Kp (λk=>BW (f k)) n))
 | 0,i,j,q+1,h,_=>by
  have:n=i:=by omega
  subst this;exact Ae (Al3 L n f _ _ j (A4 (Nat.le_refl _)))
 | e+1,i,j,q+1,h,h2=>by
  have hl:i<n:=by omega
  have ha:CJ i 1 1=true:=Wk (by omega);rw [Ae (Al2 L n f i (Kp (λk=>BW (f k)) i) j (ofNat_lt hl) (Af hl) ha),AS,Bc hl (by omega)];have:=RQ (λk=>BW (f k)) i;rw [this];exact AgK L n f h8 e (i+1) Ac q (by omega) (by omega)
def Ae3:List (Nat×List (Nat×V)):=[(0,[(1,bV false)])]
theorem Aj1 (n:Nat) (f:Nat->E6):Mk (VU n f) [(1,bV false)]=Afo n f 0 (λ_=>false) (λi=>nth (VU n f).t i):=by kernel_rfl
def Yz:List V->A3:=QJ λn f=>.br (BZ n) (.leaf (.ref 0,[.row 3 1 n λk=>iV (Br (λk=>BW (f k)) n k)])) .fail
theorem p94:Ar Tryz.prog Gl 49 Yz:=by
 refine Ah A0 mixed Tryz.func49 (by kernel_rfl) (by kernel_rfl) λvs v h' h=>?_;obtain ⟨n,f,ha,h1⟩:=D7 h;obtain ⟨hn,hq⟩:=Ab h1;have:=Aa hq;simp only [Prod.mk.injEq] at this;obtain ⟨rfl,rfl⟩:=this;have hx:=XE Yd Ae3 [(0,Vm n f)];have hL:=Ng Ae3 [(0,Vm n f)];have h0:∀ L,(IB Ae3 [(0,Vm n f)] 0 (Nz L) (VU n f)).sem=some (YZ n f n (Kp (λk=>BW (f k)) n)):=λL=>by
  show (Ay (Nz L) (Vm n f) (n+1) (Mk (VU n f) [(1,bV false)])).sem=_;rw [Aj1,<- AbU (λk=>BW (f k))];exact AgK L n f (KY hn) n 0 _ (n+1) (by omega) (by omega)
 have hw:=Bw (B9 hL hL) _ (Ans _ _ n f _ (HJ hn) NH (AW (h0 _)));rw [Py (λk=>BW (f k)) n] at hw;exact ⟨_,cxZ Gl W4 Ae3 [(0,Vm n f)],_,ha,rfl,hx.1,hx.2,hw,As.refl _⟩
def Vl (n:Nat) (f:Nat->E6):Lp:=⟨bmK 21 0 [0,3,4],2,bmK 21 0 [3],2,n+1⟩
def Afn (n:Nat) (f:Nat->E6) (i:Nat) (h:Nat->Bool) (j:Nat->V):St:=⟨jsV 21 0 j [(0,.sl 6 n (λi=>eV (f i))),(3,.ref 1),(4,nV i)],[.row 3 1 0 Ac,.row 4 1 i (λk=>bV (h k))]⟩
def YY (n:Nat) (f:Nat->E6) (i:Nat) (h:Nat->Bool):Ex×St:=(.ex 0,⟨jsV 21 0 Ac [(3,.ref 1)],[.row 3 1 0 Ac,.row 4 1 i (λk=>bV (h k))]⟩)
noncomputable def Ny (L:LT):St->T (Ex×St):=λst=>A8 tab ⟨A9 W4,L,Gl⟩ (A1 Tryz.f50 0) 0 st
section
variable (L:LT) (n:Nat) (f:Nat->E6) (i:Nat) (h:Nat->Bool)  (j:Nat->V)
include L n f i h j
theorem Al1 (h0:ilt (ofNat i) (ofNat n)=false):Ap (Ny L) (Vl n f) (Afn n f i h j)=some ((.ex 0),⟨jsV 21 0 Ac [(3,.ref 1)],[.row 3 1 0 Ac,.row 4 1 i (λk=>bV (h k))]⟩):=by
 exact Ag (ks:=[kn h0]) (by kernel_rfl)
theorem Al0 (h0:ilt (ofNat i) (ofNat n)=true) (h1:Av (ile 0 (ofNat i)) (ilt (ofNat i) (ofNat n))=true) (h2:CJ i 1 1=true):Ap (Ny L) (Vl n f) (Afn n f i h j)=some (.nm,⟨jsV 21 0 Ac [(0,.sl 6 n (λi=>eV (f i))),(3,.ref 1),(4,iV (wr .i64 (Am (ofNat i) 1)))],[.row 3 1 0 Ac,.row 4 1 (Cd i 1) (AE i (λk=>bV (h k)) (bV (BK (f i))))]⟩):=by
 exact Ag (ks:=[kn h0,kn h1,kn h2]) (by kernel_rfl)
end
def VT (n:Nat) (f:Nat->E6) :St:=⟨jsV 21 0 (λ_=>A7) [(0,.sl 6 n (λi=>eV (f i))),(2,.ref 0),(3,.ref 1),(4,iV 0)],[.row 3 1 0 Ac,.row 4 1 0 Ac]⟩
theorem Anr (L:LT) (p0:PT) (n:Nat) (f:Nat->E6) (q:Nat->Bool) (h0:Nr n=true) (h10:Cf [.row 3 1 n (λ_=>iV 0)]=true) (hp0:p0 (Ny (onP 0 p0 (YY n f n q) L)) (VT n f)=true):(AM (Au tab ⟨A9 W4,onP 0 p0 (YY n f n q) L,Gl⟩ Tryz.f50 [Ao n f] [])).sem=some ((.ref 0),[.row 3 1 n (λk=>iV (Br q n k))]):=by
 exact Ag (ks:=[kn hp0,kL n,kn h0,kn h10]) (by kernel_rfl)
theorem AgJ (L:LT) (n:Nat) (f:Nat->E6) (h8:n * 8 <= 140737488355328):∀ (e i:Nat) (j:Nat->V) (q:Nat),n=i+e->e<q ->
  (Ay (Ny L) (Vl n f) q (Afn n f i (Kp (λk=>BK (f k)) i) j)).sem=some (YY n f n (Kp (λk=>BK (f k)) n))
 | 0,i,j,q+1,h,_=>by
  have:n=i:=by omega
  subst this;exact Ae (Al1 L n f _ _ j (A4 (Nat.le_refl _)))
 | e+1,i,j,q+1,h,h2=>by
  have hl:i<n:=by omega
  have ha:CJ i 1 1=true:=Wk (by omega);rw [Ae (Al0 L n f i (Kp (λk=>BK (f k)) i) j (ofNat_lt hl) (Af hl) ha),AS,Bc hl (by omega)];have:=RQ (λk=>BK (f k)) i;rw [this];exact AgJ L n f h8 e (i+1) Ac q (by omega) (by omega)
def Ae2:List (Nat×List (Nat×V)):=[(0,[(1,bV false)])]
theorem Aj0 (n:Nat) (f:Nat->E6):Mk (VT n f) [(1,bV false)]=Afn n f 0 (λ_=>false) (λi=>nth (VT n f).t i):=by kernel_rfl
def Yy:List V->A3:=QJ λn f=>.br (BZ n) (.leaf (.ref 0,[.row 3 1 n λk=>iV (Br (λk=>BK (f k)) n k)])) .fail
theorem p95:Ar Tryz.prog Gl 50 Yy:=by
 refine Ah A0 mixed Tryz.func50 (by kernel_rfl) (by kernel_rfl) λvs v h' h=>?_;obtain ⟨n,f,ha,h1⟩:=D7 h;obtain ⟨hn,hq⟩:=Ab h1;have:=Aa hq;simp only [Prod.mk.injEq] at this;obtain ⟨rfl,rfl⟩:=this;have hx:=XE Yd Ae2 [(0,Vl n f)];have hL:=Ng Ae2 [(0,Vl n f)];have h0:∀ L,(IB Ae2 [(0,Vl n f)] 0 (Ny L) (VT n f)).sem=some (YY n f n (Kp (λk=>BK (f k)) n)):=λL=>by
  show (Ay (Ny L) (Vl n f) (n+1) (Mk (VT n f) [(1,bV false)])).sem=_;rw [Aj0,<- AbU (λk=>BK (f k))];exact AgJ L n f (KY hn) n 0 _ (n+1) (by omega) (by omega)
 have hw:=Bw (B9 hL hL) _ (Anr _ _ n f _ (HJ hn) NH (AW (h0 _)));rw [Py (λk=>BK (f k)) n] at hw;exact ⟨_,cxZ Gl W4 Ae2 [(0,Vl n f)],_,ha,rfl,hx.1,hx.2,hw,As.refl _⟩
theorem NM {p q:Nat->Bool} {n:Nat} (h:∀ i,i<n->q i=p i):Br q n=Br p n:=by
 funext k;unfold Br;by_cases hk:k<n
 ·rw [Ej k λi hi=>h i (by omega),Ej n h]
 ·simp [hk]
end Go.Proofs.YtkbgidbledjejaaGreat.Ed
