/-
  The document's parts, threads, locations: the part of each edge. No conditions.
-/
import Derived.Test.YtkbgidbledjejaaGreatEdY
namespace Go.Proofs.YtkbgidbledjejaaGreat.Ed
open Go.Sy
set_option maxHeartbeats 4000000
open Int (ofNat)
def SA (n:Nat) (p:Nat->Bool):Lp:=⟨bmK 57 0 [0,3,4,5],2,bmK 57 0 [0,3,4],2,n+1⟩
def UU (n:Nat) (p:Nat->Bool) (s:Int) (i:Nat) (h:Nat->Int) (j:Nat->V):St:=⟨jsV 57 0 j [(0,.sl 1 n (λk=>bV (p k))),(3,.ref 1),(4,iV s),(5,nV i)],[.row 3 1 0 Ac,.row 3 1 i (λk=>iV (h k))]⟩
def Hb (n:Nat) (p:Nat->Bool) (s:Int) (i:Nat) (h:Nat->Int):Ex×St:=(.ex 0,⟨jsV 57 0 Ac [(0,.sl 1 n (λk=>bV (p k))),(3,.ref 1),(4,iV s)],[.row 3 1 0 Ac,.row 3 1 i (λk=>iV (h k))]⟩)
noncomputable def FQ (L:LT):St->T (Ex×St):=λst=>A8 tab ⟨A6 tb0,L,Gl⟩ (A0 Tryz.f78 0) 0 st
section
variable (L:LT) (n:Nat) (p:Nat->Bool) (s:Int) (i:Nat) (h:Nat->Int)  (j:Nat->V)
include L n p s i h j
theorem AjH (h0:ilt (ofNat i) (ofNat n)=false):Ap (FQ L) (SA n p) (UU n p s i h j)=some ((.ex 0),⟨jsV 57 0 Ac [(0,.sl 1 n (λk=>bV (p k))),(3,.ref 1),(4,iV s)],[.row 3 1 0 Ac,.row 3 1 i (λk=>iV (h k))]⟩):=by
 exact Ag (ks:=[kn h0]) (by kernel_rfl)
theorem AjF (h0:ilt (ofNat i) (ofNat n)=true) (h2:Ci i 1 8=true) (h1:Av (ile 0 (ofNat i)) (ilt (ofNat i) (ofNat n))=true) (h3:p i=true):Ap (FQ L) (SA n p) (UU n p s i h j)=some (.nm,⟨jsV 57 0 Ac [(0,.sl 1 n (λk=>bV (p k))),(3,.ref 1),(4,iV (wr .i64 (Aj s 1))),(5,iV (wr .i64 (Aj (ofNat i) 1)))],[.row 3 1 0 Ac,.row 3 1 (Bh i 1) (AA i (λk=>iV (h k)) (iV s))]⟩):=by
 exact Ag (ks:=[kn h0,kn h2,kn h1,kn h3]) (by kernel_rfl)
theorem AjG (h0:ilt (ofNat i) (ofNat n)=true) (h2:Ci i 1 8=true) (h1:Av (ile 0 (ofNat i)) (ilt (ofNat i) (ofNat n))=true) (h3:p i=false):Ap (FQ L) (SA n p) (UU n p s i h j)=some (.nm,⟨jsV 57 0 Ac [(0,.sl 1 n (λk=>bV (p k))),(3,.ref 1),(4,iV s),(5,iV (wr .i64 (Aj (ofNat i) 1)))],[.row 3 1 0 Ac,.row 3 1 (Bh i 1) (AA i (λk=>iV (h k)) (iV s))]⟩):=by
 exact Ag (ks:=[kn h0,kn h2,kn h1,kn h3]) (by kernel_rfl)
end
def J8 (n:Nat) (p:Nat->Bool) :St:=⟨jsV 57 0 (λ_=>A5) [(0,.sl 1 n (λk=>bV (p k))),(2,.ref 0),(3,.ref 1),(4,iV 0),(5,iV 0)],[.row 3 1 0 Ac,.row 3 1 0 Ac]⟩
def LP (n:Nat) (p:Nat->Bool):Lp:=⟨bmK 57 0 [0,3,7],2,bmK 57 0 [3],2,n+1⟩
def Ly (n:Nat) (p:Nat->Bool) (d:Int) (g:Nat->Int) (j:Nat->V):St:=⟨jsV 57 0 j [(0,.sl 1 n (λk=>bV (p k))),(3,.ref 1),(7,iV d)],[.row 3 1 0 Ac,.row 3 1 n (λk=>iV (g k))]⟩
def Ms (n:Nat) (p:Nat->Bool) (d:Int) (g:Nat->Int):Ex×St:=(.ex 2,⟨jsV 57 0 Ac [(3,.ref 1)],[.row 3 1 0 Ac,.row 3 1 n (λk=>iV (g k))]⟩)
noncomputable def Il (L:LT):St->T (Ex×St):=λst=>A8 tab ⟨A6 tb0,L,Gl⟩ (A0 Tryz.f78 2) 2 st
section
variable (L:LT) (n:Nat) (p:Nat->Bool) (d:Int) (g:Nat->Int)  (j:Nat->V)
include L n p d g j
theorem Aj5 (h0:ile 0 d=false):Ap (Il L) (LP n p) (Ly n p d g j)=some ((.ex 2),⟨jsV 57 0 Ac [(3,.ref 1)],[.row 3 1 0 Ac,.row 3 1 n (λk=>iV (g k))]⟩):=by
 exact Ag (ks:=[kn h0,kn h0,kn h0,kn h0,kn h0,kn h0,kF]) (by kernel_rfl)
theorem Aj4 (h0:ile 0 d=true) (h1:Av (ile 0 d) (ilt d (ofNat n))=true) (h3:p (toN d)=true):Ap (Il L) (LP n p) (Ly n p d g j)=some ((.ex 2),⟨jsV 57 0 Ac [(3,.ref 1)],[.row 3 1 0 Ac,.row 3 1 n (λk=>iV (g k))]⟩):=by
 exact Ag (ks:=[kn h0,kn h0,kn h0,kn h1,kn h0,kn h0,kn h0,kN (kn h3)]) (by kernel_rfl)
theorem Aj3 (h0:ile 0 d=true) (h1:Av (ile 0 d) (ilt d (ofNat n))=true) (h3:p (toN d)=false) (h2:nlt (toN d) n=true):Ap (Il L) (LP n p) (Ly n p d g j)=some (.nm,⟨jsV 57 0 Ac [(0,.sl 1 n (λk=>bV (p k))),(3,.ref 1),(7,iV (wr .i64 (Ay d 1)))],[.row 3 1 0 Ac,.row 3 1 n (BF (λk=>iV (g k)) (toN d) (iV 0))]⟩):=by
 exact Ag (ks:=[kn h0,kn h0,kn h0,kn h1,kn h0,kn h0,kn h0,kN (kn h3),kn h1,kn h2]) (by kernel_rfl)
end
def AgM (n:Nat) (p:Nat->Bool) (s:Int) (g:Nat->Int):Nat->V:=lkU 144110790046121766 [(4,iV s),(6,nV n),(24,.sl 1 n (λk=>bV (p k))),(25,nV n),(26,nV n),(27,bV (ilt 0 (ofNat n))),(28,bV (ilt 0 (ofNat n))),(29,iV s),(30,bV (ilt 0 s)),(31,bV (ilt 0 s)),(32,bV (ilt 0 s)),(33,.sl 1 n (λk=>bV (p k))),(34,nV n),(35,iV (wr .i64 (Ay (ofNat n) 1))),(36,.pp (bV (p (toN (wr .i64 (Ay (ofNat n) 1)))))),(37,bV (p (toN (wr .i64 (Ay (ofNat n) 1))))),(38,bV (AL (p (toN (wr .i64 (Ay (ofNat n) 1)))))),(39,bV (AL (p (toN (wr .i64 (Ay (ofNat n) 1)))))),(40,nV n),(41,iV (wr .i64 (Ay (ofNat n) 1)))]
section
variable (L:LT) (p0:PT) (n:Nat) (p:Nat->Bool) (s:Int) (g:Nat->Int)
include L p0 n p s g
theorem AiI (h0:ilt 0 (ofNat n)=false) (hp0:p0 (FQ (onP 0 p0 (Hb n p s n g) L)) (J8 n p)=true):(AK (Ar tab ⟨A6 tb0,onP 0 p0 (Hb n p s n g) L,Gl⟩ Tryz.f78 [.sl 1 n (λk=>bV (p k))] [])).sem=some ((.ref 0),[.row 3 1 n (λk=>iV (g k))]):=by
 exact Ag (ks:=[kn hp0,kn h0,kn h0,kn h0,kF,kF,kF,kF,kF,kF,kF,kF]) (by kernel_rfl)
theorem AiH (h0:ilt 0 (ofNat n)=true) (h1:ilt 0 s=false) (hp0:p0 (FQ (onP 0 p0 (Hb n p s n g) L)) (J8 n p)=true):(AK (Ar tab ⟨A6 tb0,onP 0 p0 (Hb n p s n g) L,Gl⟩ Tryz.f78 [.sl 1 n (λk=>bV (p k))] [])).sem=some ((.ref 0),[.row 3 1 n (λk=>iV (g k))]):=by
 exact Ag (ks:=[kn hp0,kn h0,kn h0,kn h0,kn h1,kn h1,kn h1,kn h1,kn h1,kn h1,kn h1,kF]) (by kernel_rfl)
theorem AiG (h0:ilt 0 (ofNat n)=true) (h1:ilt 0 s=true) (h2:Av (ile 0 (wr .i64 (Ay (ofNat n) 1))) (ilt (wr .i64 (Ay (ofNat n) 1)) (ofNat n))=true) (h3:p (toN (wr .i64 (Ay (ofNat n) 1)))=true) (hp0:p0 (FQ (onP 0 p0 (Hb n p s n g) L)) (J8 n p)=true):(AK (Ar tab ⟨A6 tb0,onP 0 p0 (Hb n p s n g) L,Gl⟩ Tryz.f78 [.sl 1 n (λk=>bV (p k))] [])).sem=some ((.ref 0),[.row 3 1 n (λk=>iV (g k))]):=by
 exact Ag (ks:=[kn hp0,kn h0,kn h0,kn h0,kn h1,kn h1,kn h1,kn h1,kn h2,kn h1,kn h1,kn h1,kN (kn h3)]) (by kernel_rfl)
end
theorem AiF (L:LT) (p0:PT) (p2:PT) (n:Nat) (p:Nat->Bool) (s:Int) (g:Nat->Int) (d:Int) (u:Nat->Int) (h0:ilt 0 (ofNat n)=true) (h1:ilt 0 s=true) (h2:Av (ile 0 (wr .i64 (Ay (ofNat n) 1))) (ilt (wr .i64 (Ay (ofNat n) 1)) (ofNat n))=true) (h3:p (toN (wr .i64 (Ay (ofNat n) 1)))=false) (hp0:p0 (FQ (onP 0 p0 (Hb n p s n g) (onP 2 p2 (Ms n p d u) L))) (J8 n p)=true) (hp2:p2 (Il (onP 0 p0 (Hb n p s n g) (onP 2 p2 (Ms n p d u) L))) (Ly n p (wr .i64 (Ay (ofNat n) 1)) g (AgM n p s g))=true):(AK (Ar tab ⟨A6 tb0,onP 0 p0 (Hb n p s n g) (onP 2 p2 (Ms n p d u) L),Gl⟩ Tryz.f78 [.sl 1 n (λk=>bV (p k))] [])).sem=some ((.ref 0),[.row 3 1 n (λk=>iV (u k))]):=by
 exact Ag (ks:=[kn hp0,kn h0,kn h0,kn h0,kn h1,kn h1,kn h1,kn h1,kn h2,kn h1,kn h1,kn h1,kN (kn h3),kn hp2]) (by kernel_rfl)
theorem Vk (p:Nat->Bool) (i:Nat):AA i (λk=>iV (DG p i k)) (iV (ofNat (AD p i)))=λk=>iV (DG p (i+1) k):=by
 funext k;rw [BS,show Nat.beq k i=decide (k=i) by rw [Bool.eq_iff_iff]; simp];unfold DG;by_cases h:k=i
 ·subst h; simp
 ·by_cases h2:k<i
  ·have:k<i+1:=by omega
   simp [h,h2,this]
  ·have:¬ k<i+1:=by omega
   simp [h,h2,this]
theorem N9 {p:Nat->Bool} {i:Nat} (h:p i=true):AD p (i+1)=AD p i+1:=by rw [AD,h]
theorem NA {p:Nat->Bool} {i:Nat} (h:p i=false):AD p (i+1)=AD p i:=by rw [AD,h]
theorem Xk (L:LT) (n:Nat) (p:Nat->Bool) (h8:n * 8 <= 140737488355328):∀ (e i:Nat) (j:Nat->V) (q:Nat),n=i+e->e<q ->
  (Ax (FQ L) (SA n p) q (UU n p (ofNat (AD p i)) i (DG p i) j)).sem=some (Hb n p (ofNat (AD p n)) n (DG p n))
 | 0,i,j,q+1,h,_=>by
  have:n=i:=by omega
  subst this;exact Ae (AjH L n p _ _ _ j (A4 (Nat.le_refl _)))
 | e+1,i,j,q+1,h,h2=>by
  have hc:=EO p i;have hl:i<n:=by omega
  have ha:Ci i 1 8=true:=Tf (by omega);cases hp:p i with
  | true =>rw [Ae (AjF L n p (ofNat (AD p i)) i (DG p i) j (ofNat_lt hl) ha (Af hl) hp),AN,AY hl (by omega),AY (show AD p i<n by omega) (by omega),<- N9 hp,Vk p i];exact Xk L n p h8 e (i+1) Ac q (by omega) (by omega)
  | false =>rw [Ae (AjG L n p (ofNat (AD p i)) i (DG p i) j (ofNat_lt hl) ha (Af hl) hp),AN,AY hl (by omega),Vk p i,<- NA hp];exact Xk L n p h8 e (i+1) Ac q (by omega) (by omega)
set_option maxHeartbeats 4000000 in
theorem YB (L:LT) (n:Nat) (p:Nat->Bool) (hn:n <= 4611686018427387904) (hs:0<AD p n):∀ (D:Nat) (j:Nat->V) (q:Nat),D <= n->D<q->(∀ k,D <= k->k<n->AD p k=AD p n) ->
  (Ax (Il L) (LP n p) q (Ly n p (dn D) (DG p D) j)).sem=some (Ms n p 0 (Bu p n))
 | 0,j,q+1,h,_,hb=>by
  rw [<- LJ p n 0 h (λk hk=>absurd hk (Nat.not_lt_zero _)) hb];exact Ae (Aj5 L n p (dn 0) (DG p 0) j rfl)
 | D+1,j,q+1,h,h2,hb=>by
  have hD:D<n:=by omega
  have hk:nlt D n=true:=by simpa [nlt] using hD
  cases hp:p D with
  | false =>
   have he:AD p D=AD p n:=by
    rw [<- NA hp];by_cases h5:D+1=n
    ·rw [h5]
    ·exact hb (D+1) (Nat.le_refl _) (by omega)
   rw [show dn (D+1)=ofNat D from rfl,Ae (Aj3 L n p (ofNat D) (DG p (D+1)) j (FN D) (Af hD) hp hk),AN,Z8 (show D <= n by omega) hn,T8,show toN (ofNat D)=D from rfl,RR];exact YB L n p hn hs D Ac q (by omega) (by omega) λk h3 h4=>by
    by_cases h5:k=D
    ·subst h5; exact he
    ·exact hb k (by omega) h4
  | true =>
   have h6:AD p D<AD p n:=by
    have:=FL p (show D+1 <= n by omega);rw [N9 hp] at this;omega
   rw [<- LJ p n (D+1) h (λk hk=>by have:=FL p (show k <= D by omega); omega) hb];rw [show dn (D+1)=ofNat D from rfl];exact Ae (Aj4 L n p (ofNat D) (DG p (D+1)) j (FN D) (Af hD) hp)
def UK:List (Nat×List (Nat×V)):=[(0,[(1,iV 0)])]
def PZ (n:Nat) (p:Nat->Bool):List (Nat×Lp):=[(0,SA n p),(2,LP n p)]
def MU:List V->A2
 | [v]=>apB v λn p=>.br (N5 n) (.leaf (.ref 0,[.row 3 1 n λk=>iV (Bu p n k)])) .fail
 | _=>.fail
theorem Aha (n:Nat) (p:Nat->Bool):Mm (J8 n p) [(1,iV 0)]=UU n p 0 0 (λ_=>0) (λi=>nth (J8 n p).t i):=by kernel_rfl
theorem Afv (n:Nat) (p:Nat->Bool) (h8:N5 n=true) :
  (AK (Ar tab (cxZ Gl tb0 UK (PZ n p)) Tryz.f78 [Yt n p] [])).sem=some (.ref 0,[.row 3 1 n λk=>iV (Bu p n k)]):=by
 have h8':n * 8 <= 140737488355328:=of_decide_eq_true h8;have hn:n <= 4611686018427387904:=by omega
 have hL:=Nr UK (PZ n p);have h0:∀ L,(IB UK (PZ n p) 0 (FQ L) (J8 n p)).sem=some (Hb n p (ofNat (AD p n)) n (DG p n)):=λL=>by
  show (Ax (FQ L) (SA n p) (n+1) (Mm (J8 n p) [(1,iV 0)])).sem=_;rw [Aha,<- Ac8 p];exact Xk L n p h8' n 0 _ (n+1) (by omega) (by omega)
 cases n with
 | zero =>rw [<- Xt p 0 rfl];exact Bp (Bn hL hL) _ (AiI _ _ 0 p _ _ rfl (AP (h0 _)))
 | succ m =>
  have c0:ilt 0 (ofNat (m+1))=true:=by rw [show (0:Int)=ofNat 0 from rfl,EL]; simp
  have e1:wr .i64 (Ay (ofNat (m+1)) 1)=ofNat m:=Z8 (Nat.le_refl _) hn;have e2:toN (ofNat m)=m:=rfl;cases hs:ilt 0 (ofNat (AD p (m+1))) with
  | false =>
   have hz:AD p (m+1)=0:=by simpa [ilt] using hs
   have hw:=Bp (Bn hL hL) _ (AiH _ _ (m+1) p _ _ c0 hs (AP (h0 _)));rw [<- Xt p (m+1) hz];exact hw
  | true =>
   have hz:0<AD p (m+1):=by simpa [ilt] using hs
   have hb:Av (ile 0 (wr .i64 (Ay (ofNat (m+1)) 1))) (ilt (wr .i64 (Ay (ofNat (m+1)) 1)) (ofNat (m+1)))=true:=by rw [e1]; exact Af (Nat.lt_succ_self m)
   cases hp:p m with
   | true =>have hw:=Bp (Bn hL hL) _ (AiG _ _ (m+1) p _ _ c0 hs hb (by rw [e1,e2]; exact hp) (AP (h0 _)));rw [<- LJ p (m+1) (m+1) (Nat.le_refl _) (λk hk=>by have:=FL p (show k <= m by omega); rw [N9 hp]; omega) (λk h1 h2=>by omega)];exact hw
   | false =>have h2:=λL j=>YB L (m+1) p hn hz (m+1) j (m+2) (Nat.le_refl _) (by omega) (λk h1 h2=>by omega);rw [show dn (m+1)=ofNat m from rfl,<- e1] at h2;exact Bp (Bn (Bn hL hL) hL) _ (AiF _ _ _ (m+1) p _ (DG p (m+1)) 0 (Bu p (m+1)) c0 hs hb (by rw [e1,e2]; exact hp) (AP (h0 _)) (AP (h2 _ _)))
theorem Apt:As Tryz.prog Gl 78 MU:=by
 refine Ah Az mixed Tryz.func78 (by kernel_rfl) (by kernel_rfl) λvs v h' h=>?_;unfold MU at h;split at h
 ·rename_i u
  obtain ⟨n,p,ha,h1⟩:=AeU h;obtain ⟨h8,hq⟩:=Ab h1;have:=Aa hq;simp only [Prod.mk.injEq] at this;obtain ⟨rfl,rfl⟩:=this;have hA:B0 [u] [Yt n p]:=λS w cs hv=>by
   obtain ⟨c,l,rfl,q1,q2⟩:=hv;exact ⟨c,l,rfl,ha S w c q1,q2⟩
  have hx:=Ye Hy UK (PZ n p);exact ⟨_,cxZ Gl tb0 UK (PZ n p),_,hA,rfl,hx.1,hx.2,Afv n p h8,Au.refl _⟩
 ·cases h
theorem NT {n:Nat}:Ce [.row 3 1 n (λ_=>iV 0)]=true:=by
 simp [Ce,MC,iV]
noncomputable def WQ:AH:=(47,Co λe=>bV (BX e))::(48,Co λe=>bV (BM e))::(78,MU)::[]
theorem Y3:Ao Tryz.prog Gl WQ:=.cons p60 <| .cons p61 <| .cons Apt .nil
def Ks (p:Nat->Bool) (i k:Nat):Bool:=decide (k<i) && p k
theorem Ac7 (p:Nat->Bool):Ks p 0=λ_=>false:=by
 funext k;simp [Ks]
theorem So (p:Nat->Bool) (i:Nat):AA i (λk=>bV (Ks p i k)) (bV (p i))=λk=>bV (Ks p (i+1) k):=by
 funext k;rw [BS,show Nat.beq k i=decide (k=i) by rw [Bool.eq_iff_iff]; simp];unfold Ks;by_cases h:k=i
 ·subst h; simp
 ·by_cases h2:k<i
  ·have:k<i+1:=by omega
   simp [h,h2,this]
  ·have:¬ k<i+1:=by omega
   simp [h,h2,this]
theorem Eo {p q:Nat->Bool}:∀ k,(∀ i,i<k->q i=p i)->AD q k=AD p k
 | 0,_=>rfl
 | k+1,h=>by
  rw [AD,AD,h k (Nat.lt_succ_self k),Eo k λi hi=>h i (by omega)]
theorem PL (p:Nat->Bool) (n:Nat):Bu (Ks p n) n=Bu p n:=by
 have hq:∀ i,i<n->Ks p n i=p i:=λi hi=>by simp [Ks,hi]
 funext k;unfold Bu;by_cases h:k<n
 ·rw [Eo k λi hi=>hq i (by omega),Eo n hq]
 ·simp [h]
theorem KW {n:Nat} (h:BG n=true):n * 8 <= 140737488355328:=of_decide_eq_true (HB h)
def V2 (n:Nat) (f:Nat->E6):Lp:=⟨bmK 21 0 [0,3,4],2,bmK 21 0 [3],2,n+1⟩
def Agf (n:Nat) (f:Nat->E6) (i:Nat) (h:Nat->Bool) (j:Nat->V):St:=⟨jsV 21 0 j [(0,.sl 6 n (λi=>eV (f i))),(3,.ref 1),(4,nV i)],[.row 3 1 0 Ac,.row 4 1 i (λk=>bV (h k))]⟩
def Z3 (n:Nat) (f:Nat->E6) (i:Nat) (h:Nat->Bool):Ex×St:=(.ex 0,⟨jsV 21 0 Ac [(3,.ref 1)],[.row 3 1 0 Ac,.row 4 1 i (λk=>bV (h k))]⟩)
noncomputable def NC (L:LT):St->T (Ex×St):=λst=>A8 tab ⟨A6 WQ,L,Gl⟩ (A0 Tryz.f49 0) 0 st
section
variable (L:LT) (n:Nat) (f:Nat->E6) (i:Nat) (h:Nat->Bool)  (j:Nat->V)
include L n f i h j
theorem AmD (h0:ilt (ofNat i) (ofNat n)=false):Ap (NC L) (V2 n f) (Agf n f i h j)=some ((.ex 0),⟨jsV 21 0 Ac [(3,.ref 1)],[.row 3 1 0 Ac,.row 4 1 i (λk=>bV (h k))]⟩):=by
 exact Ag (ks:=[kn h0]) (by kernel_rfl)
theorem AmC (h0:ilt (ofNat i) (ofNat n)=true) (h1:Av (ile 0 (ofNat i)) (ilt (ofNat i) (ofNat n))=true) (h2:Ci i 1 1=true):Ap (NC L) (V2 n f) (Agf n f i h j)=some (.nm,⟨jsV 21 0 Ac [(0,.sl 6 n (λi=>eV (f i))),(3,.ref 1),(4,iV (wr .i64 (Aj (ofNat i) 1)))],[.row 3 1 0 Ac,.row 4 1 (Bh i 1) (AA i (λk=>bV (h k)) (bV (BX (f i))))]⟩):=by
 exact Ag (ks:=[kn h0,kn h1,kn h2]) (by kernel_rfl)
end
def Wn (n:Nat) (f:Nat->E6) :St:=⟨jsV 21 0 (λ_=>A5) [(0,.sl 6 n (λi=>eV (f i))),(2,.ref 0),(3,.ref 1),(4,iV 0)],[.row 3 1 0 Ac,.row 4 1 0 Ac]⟩
theorem AoA (L:LT) (p0:PT) (n:Nat) (f:Nat->E6) (q:Nat->Bool) (h0:N5 n=true) (h10:Ce [.row 3 1 n (λ_=>iV 0)]=true) (hp0:p0 (NC (onP 0 p0 (Z3 n f n q) L)) (Wn n f)=true):(AK (Ar tab ⟨A6 WQ,onP 0 p0 (Z3 n f n q) L,Gl⟩ Tryz.f49 [Am n f] [])).sem=some ((.ref 0),[.row 3 1 n (λk=>iV (Bu q n k))]):=by
 exact Ag (ks:=[kn hp0,kL n,kn h0,kn h10]) (by kernel_rfl)
theorem AhG (L:LT) (n:Nat) (f:Nat->E6) (h8:n * 8 <= 140737488355328):∀ (e i:Nat) (j:Nat->V) (q:Nat),n=i+e->e<q ->
  (Ax (NC L) (V2 n f) q (Agf n f i (Ks (λk=>BX (f k)) i) j)).sem=some (Z3 n f n (Ks (λk=>BX (f k)) n))
 | 0,i,j,q+1,h,_=>by
  have:n=i:=by omega
  subst this;exact Ae (AmD L n f _ _ j (A4 (Nat.le_refl _)))
 | e+1,i,j,q+1,h,h2=>by
  have hl:i<n:=by omega
  have ha:Ci i 1 1=true:=Tf (by omega);rw [Ae (AmC L n f i (Ks (λk=>BX (f k)) i) j (ofNat_lt hl) (Af hl) ha),AN,AY hl (by omega)];have:=So (λk=>BX (f k)) i;rw [this];exact AhG L n f h8 e (i+1) Ac q (by omega) (by omega)
def Afj:List (Nat×List (Nat×V)):=[(0,[(1,bV false)])]
theorem AkA (n:Nat) (f:Nat->E6):Mm (Wn n f) [(1,bV false)]=Agf n f 0 (λ_=>false) (λi=>nth (Wn n f).t i):=by kernel_rfl
def YP:List V->A2:=NI λn f=>.br (BG n) (.leaf (.ref 0,[.row 3 1 n λk=>iV (Bu (λk=>BX (f k)) n k)])) .fail
theorem p94:As Tryz.prog Gl 49 YP:=by
 refine Ah Az mixed Tryz.func49 (by kernel_rfl) (by kernel_rfl) λvs v h' h=>?_;obtain ⟨n,f,ha,h1⟩:=CH h;obtain ⟨hn,hq⟩:=Ab h1;have:=Aa hq;simp only [Prod.mk.injEq] at this;obtain ⟨rfl,rfl⟩:=this;have hx:=Ye Y3 Afj [(0,V2 n f)];have hL:=Nr Afj [(0,V2 n f)];have h0:∀ L,(IB Afj [(0,V2 n f)] 0 (NC L) (Wn n f)).sem=some (Z3 n f n (Ks (λk=>BX (f k)) n)):=λL=>by
  show (Ax (NC L) (V2 n f) (n+1) (Mm (Wn n f) [(1,bV false)])).sem=_;rw [AkA,<- Ac7 (λk=>BX (f k))];exact AhG L n f (KW hn) n 0 _ (n+1) (by omega) (by omega)
 have hw:=Bp (Bn hL hL) _ (AoA _ _ n f _ (HB hn) NT (AP (h0 _)));rw [PL (λk=>BX (f k)) n] at hw;exact ⟨_,cxZ Gl WQ Afj [(0,V2 n f)],_,ha,rfl,hx.1,hx.2,hw,Au.refl _⟩
def V1 (n:Nat) (f:Nat->E6):Lp:=⟨bmK 21 0 [0,3,4],2,bmK 21 0 [3],2,n+1⟩
def Age (n:Nat) (f:Nat->E6) (i:Nat) (h:Nat->Bool) (j:Nat->V):St:=⟨jsV 21 0 j [(0,.sl 6 n (λi=>eV (f i))),(3,.ref 1),(4,nV i)],[.row 3 1 0 Ac,.row 4 1 i (λk=>bV (h k))]⟩
def Z2 (n:Nat) (f:Nat->E6) (i:Nat) (h:Nat->Bool):Ex×St:=(.ex 0,⟨jsV 21 0 Ac [(3,.ref 1)],[.row 3 1 0 Ac,.row 4 1 i (λk=>bV (h k))]⟩)
noncomputable def NB (L:LT):St->T (Ex×St):=λst=>A8 tab ⟨A6 WQ,L,Gl⟩ (A0 Tryz.f50 0) 0 st
section
variable (L:LT) (n:Nat) (f:Nat->E6) (i:Nat) (h:Nat->Bool)  (j:Nat->V)
include L n f i h j
theorem AmB (h0:ilt (ofNat i) (ofNat n)=false):Ap (NB L) (V1 n f) (Age n f i h j)=some ((.ex 0),⟨jsV 21 0 Ac [(3,.ref 1)],[.row 3 1 0 Ac,.row 4 1 i (λk=>bV (h k))]⟩):=by
 exact Ag (ks:=[kn h0]) (by kernel_rfl)
theorem AmA (h0:ilt (ofNat i) (ofNat n)=true) (h1:Av (ile 0 (ofNat i)) (ilt (ofNat i) (ofNat n))=true) (h2:Ci i 1 1=true):Ap (NB L) (V1 n f) (Age n f i h j)=some (.nm,⟨jsV 21 0 Ac [(0,.sl 6 n (λi=>eV (f i))),(3,.ref 1),(4,iV (wr .i64 (Aj (ofNat i) 1)))],[.row 3 1 0 Ac,.row 4 1 (Bh i 1) (AA i (λk=>bV (h k)) (bV (BM (f i))))]⟩):=by
 exact Ag (ks:=[kn h0,kn h1,kn h2]) (by kernel_rfl)
end
def Wm (n:Nat) (f:Nat->E6) :St:=⟨jsV 21 0 (λ_=>A5) [(0,.sl 6 n (λi=>eV (f i))),(2,.ref 0),(3,.ref 1),(4,iV 0)],[.row 3 1 0 Ac,.row 4 1 0 Ac]⟩
theorem Ao9 (L:LT) (p0:PT) (n:Nat) (f:Nat->E6) (q:Nat->Bool) (h0:N5 n=true) (h10:Ce [.row 3 1 n (λ_=>iV 0)]=true) (hp0:p0 (NB (onP 0 p0 (Z2 n f n q) L)) (Wm n f)=true):(AK (Ar tab ⟨A6 WQ,onP 0 p0 (Z2 n f n q) L,Gl⟩ Tryz.f50 [Am n f] [])).sem=some ((.ref 0),[.row 3 1 n (λk=>iV (Bu q n k))]):=by
 exact Ag (ks:=[kn hp0,kL n,kn h0,kn h10]) (by kernel_rfl)
theorem AhF (L:LT) (n:Nat) (f:Nat->E6) (h8:n * 8 <= 140737488355328):∀ (e i:Nat) (j:Nat->V) (q:Nat),n=i+e->e<q ->
  (Ax (NB L) (V1 n f) q (Age n f i (Ks (λk=>BM (f k)) i) j)).sem=some (Z2 n f n (Ks (λk=>BM (f k)) n))
 | 0,i,j,q+1,h,_=>by
  have:n=i:=by omega
  subst this;exact Ae (AmB L n f _ _ j (A4 (Nat.le_refl _)))
 | e+1,i,j,q+1,h,h2=>by
  have hl:i<n:=by omega
  have ha:Ci i 1 1=true:=Tf (by omega);rw [Ae (AmA L n f i (Ks (λk=>BM (f k)) i) j (ofNat_lt hl) (Af hl) ha),AN,AY hl (by omega)];have:=So (λk=>BM (f k)) i;rw [this];exact AhF L n f h8 e (i+1) Ac q (by omega) (by omega)
def Afi:List (Nat×List (Nat×V)):=[(0,[(1,bV false)])]
theorem Ak9 (n:Nat) (f:Nat->E6):Mm (Wm n f) [(1,bV false)]=Age n f 0 (λ_=>false) (λi=>nth (Wm n f).t i):=by kernel_rfl
def YO:List V->A2:=NI λn f=>.br (BG n) (.leaf (.ref 0,[.row 3 1 n λk=>iV (Bu (λk=>BM (f k)) n k)])) .fail
theorem p95:As Tryz.prog Gl 50 YO:=by
 refine Ah Az mixed Tryz.func50 (by kernel_rfl) (by kernel_rfl) λvs v h' h=>?_;obtain ⟨n,f,ha,h1⟩:=CH h;obtain ⟨hn,hq⟩:=Ab h1;have:=Aa hq;simp only [Prod.mk.injEq] at this;obtain ⟨rfl,rfl⟩:=this;have hx:=Ye Y3 Afi [(0,V1 n f)];have hL:=Nr Afi [(0,V1 n f)];have h0:∀ L,(IB Afi [(0,V1 n f)] 0 (NB L) (Wm n f)).sem=some (Z2 n f n (Ks (λk=>BM (f k)) n)):=λL=>by
  show (Ax (NB L) (V1 n f) (n+1) (Mm (Wm n f) [(1,bV false)])).sem=_;rw [Ak9,<- Ac7 (λk=>BM (f k))];exact AhF L n f (KW hn) n 0 _ (n+1) (by omega) (by omega)
 have hw:=Bp (Bn hL hL) _ (Ao9 _ _ n f _ (HB hn) NT (AP (h0 _)));rw [PL (λk=>BM (f k)) n] at hw;exact ⟨_,cxZ Gl WQ Afi [(0,V1 n f)],_,ha,rfl,hx.1,hx.2,hw,Au.refl _⟩
theorem NZ {p q:Nat->Bool} {n:Nat} (h:∀ i,i<n->q i=p i):Bu q n=Bu p n:=by
 funext k;unfold Bu;by_cases hk:k<n
 ·rw [Eo k λi hi=>h i (by omega),Eo n h]
 ·simp [hk]
end Go.Proofs.YtkbgidbledjejaaGreat.Ed
