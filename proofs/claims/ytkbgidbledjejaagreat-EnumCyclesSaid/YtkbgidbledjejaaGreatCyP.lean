/-
  The document's parts, threads, locations: the part of each edge. No conditions.
-/
import Derived.Test.YtkbgidbledjejaaGreatCyT
namespace Go.Proofs.YtkbgidbledjejaaGreat.Ed
open Go.Sy
set_option maxHeartbeats 4000000
open Int (ofNat)
def S5 (n:Nat) (p:Nat->Bool):Lp:=⟨bmK 57 0 [0,3,4,5],2,bmK 57 0 [0,3,4],2,n+1⟩
def UU (n:Nat) (p:Nat->Bool) (s:Int) (i:Nat) (h:Nat->Int) (j:Nat->V):St:=⟨jsV 57 0 j [(0,.sl 1 n (λk=>bV (p k))),(3,.ref 1),(4,iV s),(5,nV i)],[.row 3 1 0 Ac,.row 3 1 i (λk=>iV (h k))]⟩
def He (n:Nat) (p:Nat->Bool) (s:Int) (i:Nat) (h:Nat->Int):Ex×St:=(.ex 0,⟨jsV 57 0 Ac [(0,.sl 1 n (λk=>bV (p k))),(3,.ref 1),(4,iV s)],[.row 3 1 0 Ac,.row 3 1 i (λk=>iV (h k))]⟩)
noncomputable def FP (L:LT):St->T (Ex×St):=λst=>A6 tab ⟨A5 tb0,L,Gl⟩ (Aw Tryz.f78 0) 0 st
section
variable (L:LT) (n:Nat) (p:Nat->Bool) (s:Int) (i:Nat) (h:Nat->Int)  (j:Nat->V)
include L n p s i h j
theorem AjV (h0:ilt (ofNat i) (ofNat n)=false):Am (FP L) (S5 n p) (UU n p s i h j)=some ((.ex 0),⟨jsV 57 0 Ac [(0,.sl 1 n (λk=>bV (p k))),(3,.ref 1),(4,iV s)],[.row 3 1 0 Ac,.row 3 1 i (λk=>iV (h k))]⟩):=by
 exact Ag (ks:=[kn h0]) (by kernel_rfl)
theorem AjT (h0:ilt (ofNat i) (ofNat n)=true) (h2:Ck i 1 8=true) (h1:Av (ile 0 (ofNat i)) (ilt (ofNat i) (ofNat n))=true) (h3:p i=true):Am (FP L) (S5 n p) (UU n p s i h j)=some (.nm,⟨jsV 57 0 Ac [(0,.sl 1 n (λk=>bV (p k))),(3,.ref 1),(4,iV (wr .i64 (Ai s 1))),(5,iV (wr .i64 (Ai (ofNat i) 1)))],[.row 3 1 0 Ac,.row 3 1 (Bv i 1) (AC i (λk=>iV (h k)) (iV s))]⟩):=by
 exact Ag (ks:=[kn h0,kn h2,kn h1,kn h3]) (by kernel_rfl)
theorem AjU (h0:ilt (ofNat i) (ofNat n)=true) (h2:Ck i 1 8=true) (h1:Av (ile 0 (ofNat i)) (ilt (ofNat i) (ofNat n))=true) (h3:p i=false):Am (FP L) (S5 n p) (UU n p s i h j)=some (.nm,⟨jsV 57 0 Ac [(0,.sl 1 n (λk=>bV (p k))),(3,.ref 1),(4,iV s),(5,iV (wr .i64 (Ai (ofNat i) 1)))],[.row 3 1 0 Ac,.row 3 1 (Bv i 1) (AC i (λk=>iV (h k)) (iV s))]⟩):=by
 exact Ag (ks:=[kn h0,kn h2,kn h1,kn h3]) (by kernel_rfl)
end
def J9 (n:Nat) (p:Nat->Bool) :St:=⟨jsV 57 0 (λ_=>A7) [(0,.sl 1 n (λk=>bV (p k))),(2,.ref 0),(3,.ref 1),(4,iV 0),(5,iV 0)],[.row 3 1 0 Ac,.row 3 1 0 Ac]⟩
def LQ (n:Nat) (p:Nat->Bool):Lp:=⟨bmK 57 0 [0,3,7],2,bmK 57 0 [3],2,n+1⟩
def L0 (n:Nat) (p:Nat->Bool) (d:Int) (g:Nat->Int) (j:Nat->V):St:=⟨jsV 57 0 j [(0,.sl 1 n (λk=>bV (p k))),(3,.ref 1),(7,iV d)],[.row 3 1 0 Ac,.row 3 1 n (λk=>iV (g k))]⟩
def Mt (n:Nat) (p:Nat->Bool) (d:Int) (g:Nat->Int):Ex×St:=(.ex 2,⟨jsV 57 0 Ac [(3,.ref 1)],[.row 3 1 0 Ac,.row 3 1 n (λk=>iV (g k))]⟩)
noncomputable def Is (L:LT):St->T (Ex×St):=λst=>A6 tab ⟨A5 tb0,L,Gl⟩ (Aw Tryz.f78 2) 2 st
section
variable (L:LT) (n:Nat) (p:Nat->Bool) (d:Int) (g:Nat->Int)  (j:Nat->V)
include L n p d g j
theorem AjE (h0:ile 0 d=false):Am (Is L) (LQ n p) (L0 n p d g j)=some ((.ex 2),⟨jsV 57 0 Ac [(3,.ref 1)],[.row 3 1 0 Ac,.row 3 1 n (λk=>iV (g k))]⟩):=by
 exact Ag (ks:=[kn h0,kn h0,kn h0,kn h0,kn h0,kn h0,kF]) (by kernel_rfl)
theorem AjD (h0:ile 0 d=true) (h1:Av (ile 0 d) (ilt d (ofNat n))=true) (h3:p (toN d)=true):Am (Is L) (LQ n p) (L0 n p d g j)=some ((.ex 2),⟨jsV 57 0 Ac [(3,.ref 1)],[.row 3 1 0 Ac,.row 3 1 n (λk=>iV (g k))]⟩):=by
 exact Ag (ks:=[kn h0,kn h0,kn h0,kn h1,kn h0,kn h0,kn h0,kN (kn h3)]) (by kernel_rfl)
theorem AjC (h0:ile 0 d=true) (h1:Av (ile 0 d) (ilt d (ofNat n))=true) (h3:p (toN d)=false) (h2:nlt (toN d) n=true):Am (Is L) (LQ n p) (L0 n p d g j)=some (.nm,⟨jsV 57 0 Ac [(0,.sl 1 n (λk=>bV (p k))),(3,.ref 1),(7,iV (wr .i64 (Az d 1)))],[.row 3 1 0 Ac,.row 3 1 n (BD (λk=>iV (g k)) (toN d) (iV 0))]⟩):=by
 exact Ag (ks:=[kn h0,kn h0,kn h0,kn h1,kn h0,kn h0,kn h0,kN (kn h3),kn h1,kn h2]) (by kernel_rfl)
end
def AgL (n:Nat) (p:Nat->Bool) (s:Int) (g:Nat->Int):Nat->V:=lkU 144110790046121766 [(4,iV s),(6,nV n),(24,.sl 1 n (λk=>bV (p k))),(25,nV n),(26,nV n),(27,bV (ilt 0 (ofNat n))),(28,bV (ilt 0 (ofNat n))),(29,iV s),(30,bV (ilt 0 s)),(31,bV (ilt 0 s)),(32,bV (ilt 0 s)),(33,.sl 1 n (λk=>bV (p k))),(34,nV n),(35,iV (wr .i64 (Az (ofNat n) 1))),(36,.pp (bV (p (toN (wr .i64 (Az (ofNat n) 1)))))),(37,bV (p (toN (wr .i64 (Az (ofNat n) 1))))),(38,bV (AN (p (toN (wr .i64 (Az (ofNat n) 1)))))),(39,bV (AN (p (toN (wr .i64 (Az (ofNat n) 1)))))),(40,nV n),(41,iV (wr .i64 (Az (ofNat n) 1)))]
section
variable (L:LT) (p0:PT) (n:Nat) (p:Nat->Bool) (s:Int) (g:Nat->Int)
include L p0 n p s g
theorem AiM (h0:ilt 0 (ofNat n)=false) (hp0:p0 (FP (onP 0 p0 (He n p s n g) L)) (J9 n p)=true):(AL (Ar tab ⟨A5 tb0,onP 0 p0 (He n p s n g) L,Gl⟩ Tryz.f78 [.sl 1 n (λk=>bV (p k))] [])).sem=some ((.ref 0),[.row 3 1 n (λk=>iV (g k))]):=by
 exact Ag (ks:=[kn hp0,kn h0,kn h0,kn h0,kF,kF,kF,kF,kF,kF,kF,kF]) (by kernel_rfl)
theorem AiL (h0:ilt 0 (ofNat n)=true) (h1:ilt 0 s=false) (hp0:p0 (FP (onP 0 p0 (He n p s n g) L)) (J9 n p)=true):(AL (Ar tab ⟨A5 tb0,onP 0 p0 (He n p s n g) L,Gl⟩ Tryz.f78 [.sl 1 n (λk=>bV (p k))] [])).sem=some ((.ref 0),[.row 3 1 n (λk=>iV (g k))]):=by
 exact Ag (ks:=[kn hp0,kn h0,kn h0,kn h0,kn h1,kn h1,kn h1,kn h1,kn h1,kn h1,kn h1,kF]) (by kernel_rfl)
theorem AiK (h0:ilt 0 (ofNat n)=true) (h1:ilt 0 s=true) (h2:Av (ile 0 (wr .i64 (Az (ofNat n) 1))) (ilt (wr .i64 (Az (ofNat n) 1)) (ofNat n))=true) (h3:p (toN (wr .i64 (Az (ofNat n) 1)))=true) (hp0:p0 (FP (onP 0 p0 (He n p s n g) L)) (J9 n p)=true):(AL (Ar tab ⟨A5 tb0,onP 0 p0 (He n p s n g) L,Gl⟩ Tryz.f78 [.sl 1 n (λk=>bV (p k))] [])).sem=some ((.ref 0),[.row 3 1 n (λk=>iV (g k))]):=by
 exact Ag (ks:=[kn hp0,kn h0,kn h0,kn h0,kn h1,kn h1,kn h1,kn h1,kn h2,kn h1,kn h1,kn h1,kN (kn h3)]) (by kernel_rfl)
end
theorem AiJ (L:LT) (p0:PT) (p2:PT) (n:Nat) (p:Nat->Bool) (s:Int) (g:Nat->Int) (d:Int) (u:Nat->Int) (h0:ilt 0 (ofNat n)=true) (h1:ilt 0 s=true) (h2:Av (ile 0 (wr .i64 (Az (ofNat n) 1))) (ilt (wr .i64 (Az (ofNat n) 1)) (ofNat n))=true) (h3:p (toN (wr .i64 (Az (ofNat n) 1)))=false) (hp0:p0 (FP (onP 0 p0 (He n p s n g) (onP 2 p2 (Mt n p d u) L))) (J9 n p)=true) (hp2:p2 (Is (onP 0 p0 (He n p s n g) (onP 2 p2 (Mt n p d u) L))) (L0 n p (wr .i64 (Az (ofNat n) 1)) g (AgL n p s g))=true):(AL (Ar tab ⟨A5 tb0,onP 0 p0 (He n p s n g) (onP 2 p2 (Mt n p d u) L),Gl⟩ Tryz.f78 [.sl 1 n (λk=>bV (p k))] [])).sem=some ((.ref 0),[.row 3 1 n (λk=>iV (u k))]):=by
 exact Ag (ks:=[kn hp0,kn h0,kn h0,kn h0,kn h1,kn h1,kn h1,kn h1,kn h2,kn h1,kn h1,kn h1,kN (kn h3),kn hp2]) (by kernel_rfl)
theorem Vm (p:Nat->Bool) (i:Nat):AC i (λk=>iV (DG p i k)) (iV (ofNat (AA p i)))=λk=>iV (DG p (i+1) k):=by
 funext k;rw [BN,show Nat.beq k i=decide (k=i) by rw [Bool.eq_iff_iff]; simp];unfold DG;by_cases h:k=i
 ·subst h; simp
 ·by_cases h2:k<i
  ·have:k<i+1:=by omega
   simp [h,h2,this]
  ·have:¬ k<i+1:=by omega
   simp [h,h2,this]
theorem Lb {p:Nat->Bool} {i:Nat} (h:p i=true):AA p (i+1)=AA p i+1:=by rw [AA,h]
theorem N9 {p:Nat->Bool} {i:Nat} (h:p i=false):AA p (i+1)=AA p i:=by rw [AA,h]
theorem Xo (L:LT) (n:Nat) (p:Nat->Bool) (h8:n * 8 <= 140737488355328):∀ (e i:Nat) (j:Nat->V) (q:Nat),n=i+e->e<q ->
  (Ax (FP L) (S5 n p) q (UU n p (ofNat (AA p i)) i (DG p i) j)).sem=some (He n p (ofNat (AA p n)) n (DG p n))
 | 0,i,j,q+1,h,_=>by
  have:n=i:=by omega
  subst this;exact Ae (AjV L n p _ _ _ j (A1 (Nat.le_refl _)))
 | e+1,i,j,q+1,h,h2=>by
  have hc:=DU p i;have hl:i<n:=by omega
  have ha:Ck i 1 8=true:=SZ (by omega);cases hp:p i with
  | true =>rw [Ae (AjT L n p (ofNat (AA p i)) i (DG p i) j (ofNat_lt hl) ha (Af hl) hp),AK,AT hl (by omega),AT (show AA p i<n by omega) (by omega),<- Lb hp,Vm p i];exact Xo L n p h8 e (i+1) Ac q (by omega) (by omega)
  | false =>rw [Ae (AjU L n p (ofNat (AA p i)) i (DG p i) j (ofNat_lt hl) ha (Af hl) hp),AK,AT hl (by omega),Vm p i,<- N9 hp];exact Xo L n p h8 e (i+1) Ac q (by omega) (by omega)
set_option maxHeartbeats 4000000 in
theorem YC (L:LT) (n:Nat) (p:Nat->Bool) (hn:n <= 4611686018427387904) (hs:0<AA p n):∀ (D:Nat) (j:Nat->V) (q:Nat),D <= n->D<q->(∀ k,D <= k->k<n->AA p k=AA p n) ->
  (Ax (Is L) (LQ n p) q (L0 n p (dn D) (DG p D) j)).sem=some (Mt n p 0 (Bu p n))
 | 0,j,q+1,h,_,hb=>by
  rw [<- LK p n 0 h (λk hk=>absurd hk (Nat.not_lt_zero _)) hb];exact Ae (AjE L n p (dn 0) (DG p 0) j rfl)
 | D+1,j,q+1,h,h2,hb=>by
  have hD:D<n:=by omega
  have hk:nlt D n=true:=by simpa [nlt] using hD
  cases hp:p D with
  | false =>
   have he:AA p D=AA p n:=by
    rw [<- N9 hp];by_cases h5:D+1=n
    ·rw [h5]
    ·exact hb (D+1) (Nat.le_refl _) (by omega)
   rw [show dn (D+1)=ofNat D from rfl,Ae (AjC L n p (ofNat D) (DG p (D+1)) j (FM D) (Af hD) hp hk),AK,ZA (show D <= n by omega) hn,Tu,show toN (ofNat D)=D from rfl,RL];exact YC L n p hn hs D Ac q (by omega) (by omega) λk h3 h4=>by
    by_cases h5:k=D
    ·subst h5; exact he
    ·exact hb k (by omega) h4
  | true =>
   have h6:AA p D<AA p n:=by
    have:=FI p (show D+1 <= n by omega);rw [Lb hp] at this;omega
   rw [<- LK p n (D+1) h (λk hk=>by have:=FI p (show k <= D by omega); omega) hb];rw [show dn (D+1)=ofNat D from rfl];exact Ae (AjD L n p (ofNat D) (DG p (D+1)) j (FM D) (Af hD) hp)
def UK:List (Nat×List (Nat×V)):=[(0,[(1,iV 0)])]
def PW (n:Nat) (p:Nat->Bool):List (Nat×Lp):=[(0,S5 n p),(2,LQ n p)]
def MW:List V->A3
 | [v]=>apB v λn p=>.br (N6 n) (.leaf (.ref 0,[.row 3 1 n λk=>iV (Bu p n k)])) .fail
 | _=>.fail
theorem AgY (n:Nat) (p:Nat->Bool):Mj (J9 n p) [(1,iV 0)]=UU n p 0 0 (λ_=>0) (λi=>nth (J9 n p).t i):=by kernel_rfl
theorem Afz (n:Nat) (p:Nat->Bool) (h8:N6 n=true) :
  (AL (Ar tab (cxZ Gl tb0 UK (PW n p)) Tryz.f78 [Yt n p] [])).sem=some (.ref 0,[.row 3 1 n λk=>iV (Bu p n k)]):=by
 have h8':n * 8 <= 140737488355328:=of_decide_eq_true h8;have hn:n <= 4611686018427387904:=by omega
 have hL:=Nr UK (PW n p);have h0:∀ L,(IF UK (PW n p) 0 (FP L) (J9 n p)).sem=some (He n p (ofNat (AA p n)) n (DG p n)):=λL=>by
  show (Ax (FP L) (S5 n p) (n+1) (Mj (J9 n p) [(1,iV 0)])).sem=_;rw [AgY,<- Ac8 p];exact Xo L n p h8' n 0 _ (n+1) (by omega) (by omega)
 cases n with
 | zero =>rw [<- Xy p 0 rfl];exact Bh (Bg hL hL) _ (AiM _ _ 0 p _ _ rfl (AB (h0 _)))
 | succ m =>
  have c0:ilt 0 (ofNat (m+1))=true:=by rw [show (0:Int)=ofNat 0 from rfl,CX]; simp
  have e1:wr .i64 (Az (ofNat (m+1)) 1)=ofNat m:=ZA (Nat.le_refl _) hn;have e2:toN (ofNat m)=m:=rfl;cases hs:ilt 0 (ofNat (AA p (m+1))) with
  | false =>
   have hz:AA p (m+1)=0:=by simpa [ilt] using hs
   have hw:=Bh (Bg hL hL) _ (AiL _ _ (m+1) p _ _ c0 hs (AB (h0 _)));rw [<- Xy p (m+1) hz];exact hw
  | true =>
   have hz:0<AA p (m+1):=by simpa [ilt] using hs
   have hb:Av (ile 0 (wr .i64 (Az (ofNat (m+1)) 1))) (ilt (wr .i64 (Az (ofNat (m+1)) 1)) (ofNat (m+1)))=true:=by rw [e1]; exact Af (Nat.lt_succ_self m)
   cases hp:p m with
   | true =>have hw:=Bh (Bg hL hL) _ (AiK _ _ (m+1) p _ _ c0 hs hb (by rw [e1,e2]; exact hp) (AB (h0 _)));rw [<- LK p (m+1) (m+1) (Nat.le_refl _) (λk hk=>by have:=FI p (show k <= m by omega); rw [Lb hp]; omega) (λk h1 h2=>by omega)];exact hw
   | false =>have h2:=λL j=>YC L (m+1) p hn hz (m+1) j (m+2) (Nat.le_refl _) (by omega) (λk h1 h2=>by omega);rw [show dn (m+1)=ofNat m from rfl,<- e1] at h2;exact Bh (Bg (Bg hL hL) hL) _ (AiJ _ _ _ (m+1) p _ (DG p (m+1)) 0 (Bu p (m+1)) c0 hs hb (by rw [e1,e2]; exact hp) (AB (h0 _)) (AB (h2 _ _)))
theorem Apz:As Tryz.prog Gl 78 MW:=by
 refine Ah A2 mixed Tryz.func78 (by kernel_rfl) (by kernel_rfl) λvs v h' h=>?_;unfold MW at h;split at h
 ·rename_i u
  obtain ⟨n,p,ha,h1⟩:=AeV h;obtain ⟨h8,hq⟩:=Ab h1;have:=Aa hq;simp only [Prod.mk.injEq] at this;obtain ⟨rfl,rfl⟩:=this;have hA:By [u] [Yt n p]:=λS w cs hv=>by
   obtain ⟨c,l,rfl,q1,q2⟩:=hv;exact ⟨c,l,rfl,ha S w c q1,q2⟩
  have hx:=Yg H2 UK (PW n p);exact ⟨_,cxZ Gl tb0 UK (PW n p),_,hA,rfl,hx.1,hx.2,Afz n p h8,Au.refl _⟩
 ·cases h
theorem NQ {n:Nat}:BM [.row 3 1 n (λ_=>iV 0)]=true:=by
 simp [BM,MD,iV]
noncomputable def WT:AG:=(47,Cm λe=>bV (BY e))::(48,Cm λe=>bV (BI e))::(78,MW)::[]
theorem Y3:Al Tryz.prog Gl WT:=.cons p60 <| .cons p61 <| .cons Apz .nil
def Kt (p:Nat->Bool) (i k:Nat):Bool:=decide (k<i) && p k
theorem Ac7 (p:Nat->Bool):Kt p 0=λ_=>false:=by
 funext k;simp [Kt]
theorem Si (p:Nat->Bool) (i:Nat):AC i (λk=>bV (Kt p i k)) (bV (p i))=λk=>bV (Kt p (i+1) k):=by
 funext k;rw [BN,show Nat.beq k i=decide (k=i) by rw [Bool.eq_iff_iff]; simp];unfold Kt;by_cases h:k=i
 ·subst h; simp
 ·by_cases h2:k<i
  ·have:k<i+1:=by omega
   simp [h,h2,this]
  ·have:¬ k<i+1:=by omega
   simp [h,h2,this]
theorem Ei {p q:Nat->Bool}:∀ k,(∀ i,i<k->q i=p i)->AA q k=AA p k
 | 0,_=>rfl
 | k+1,h=>by
  rw [AA,AA,h k (Nat.lt_succ_self k),Ei k λi hi=>h i (by omega)]
theorem PH (p:Nat->Bool) (n:Nat):Bu (Kt p n) n=Bu p n:=by
 have hq:∀ i,i<n->Kt p n i=p i:=λi hi=>by simp [Kt,hi]
 funext k;unfold Bu;by_cases h:k<n
 ·rw [Ei k λi hi=>hq i (by omega),Ei n hq]
 ·simp [h]
theorem KX {n:Nat} (h:Cl n=true):n * 8 <= 140737488355328:=of_decide_eq_true (HF h)
def V4 (n:Nat) (f:Nat->E6):Lp:=⟨bmK 21 0 [0,3,4],2,bmK 21 0 [3],2,n+1⟩
def Age (n:Nat) (f:Nat->E6) (i:Nat) (h:Nat->Bool) (j:Nat->V):St:=⟨jsV 21 0 j [(0,.sl 6 n (λi=>eV (f i))),(3,.ref 1),(4,nV i)],[.row 3 1 0 Ac,.row 4 1 i (λk=>bV (h k))]⟩
def Z5 (n:Nat) (f:Nat->E6) (i:Nat) (h:Nat->Bool):Ex×St:=(.ex 0,⟨jsV 21 0 Ac [(3,.ref 1)],[.row 3 1 0 Ac,.row 4 1 i (λk=>bV (h k))]⟩)
noncomputable def NB (L:LT):St->T (Ex×St):=λst=>A6 tab ⟨A5 WT,L,Gl⟩ (Aw Tryz.f49 0) 0 st
section
variable (L:LT) (n:Nat) (f:Nat->E6) (i:Nat) (h:Nat->Bool)  (j:Nat->V)
include L n f i h j
theorem AmE (h0:ilt (ofNat i) (ofNat n)=false):Am (NB L) (V4 n f) (Age n f i h j)=some ((.ex 0),⟨jsV 21 0 Ac [(3,.ref 1)],[.row 3 1 0 Ac,.row 4 1 i (λk=>bV (h k))]⟩):=by
 exact Ag (ks:=[kn h0]) (by kernel_rfl)
theorem AmD (h0:ilt (ofNat i) (ofNat n)=true) (h1:Av (ile 0 (ofNat i)) (ilt (ofNat i) (ofNat n))=true) (h2:Ck i 1 1=true):Am (NB L) (V4 n f) (Age n f i h j)=some (.nm,⟨jsV 21 0 Ac [(0,.sl 6 n (λi=>eV (f i))),(3,.ref 1),(4,iV (wr .i64 (Ai (ofNat i) 1)))],[.row 3 1 0 Ac,.row 4 1 (Bv i 1) (AC i (λk=>bV (h k)) (bV (BY (f i))))]⟩):=by
 exact Ag (ks:=[kn h0,kn h1,kn h2]) (by kernel_rfl)
end
def Wq (n:Nat) (f:Nat->E6) :St:=⟨jsV 21 0 (λ_=>A7) [(0,.sl 6 n (λi=>eV (f i))),(2,.ref 0),(3,.ref 1),(4,iV 0)],[.row 3 1 0 Ac,.row 4 1 0 Ac]⟩
theorem AoB (L:LT) (p0:PT) (n:Nat) (f:Nat->E6) (q:Nat->Bool) (h0:N6 n=true) (h10:BM [.row 3 1 n (λ_=>iV 0)]=true) (hp0:p0 (NB (onP 0 p0 (Z5 n f n q) L)) (Wq n f)=true):(AL (Ar tab ⟨A5 WT,onP 0 p0 (Z5 n f n q) L,Gl⟩ Tryz.f49 [Ap n f] [])).sem=some ((.ref 0),[.row 3 1 n (λk=>iV (Bu q n k))]):=by
 exact Ag (ks:=[kn hp0,kL n,kn h0,kn h10]) (by kernel_rfl)
theorem AhD (L:LT) (n:Nat) (f:Nat->E6) (h8:n * 8 <= 140737488355328):∀ (e i:Nat) (j:Nat->V) (q:Nat),n=i+e->e<q ->
  (Ax (NB L) (V4 n f) q (Age n f i (Kt (λk=>BY (f k)) i) j)).sem=some (Z5 n f n (Kt (λk=>BY (f k)) n))
 | 0,i,j,q+1,h,_=>by
  have:n=i:=by omega
  subst this;exact Ae (AmE L n f _ _ j (A1 (Nat.le_refl _)))
 | e+1,i,j,q+1,h,h2=>by
  have hl:i<n:=by omega
  have ha:Ck i 1 1=true:=SZ (by omega);rw [Ae (AmD L n f i (Kt (λk=>BY (f k)) i) j (ofNat_lt hl) (Af hl) ha),AK,AT hl (by omega)];have:=Si (λk=>BY (f k)) i;rw [this];exact AhD L n f h8 e (i+1) Ac q (by omega) (by omega)
def Afl:List (Nat×List (Nat×V)):=[(0,[(1,bV false)])]
theorem AkJ (n:Nat) (f:Nat->E6):Mj (Wq n f) [(1,bV false)]=Age n f 0 (λ_=>false) (λi=>nth (Wq n f).t i):=by kernel_rfl
def YQ:List V->A3:=Oy λn f=>.br (Cl n) (.leaf (.ref 0,[.row 3 1 n λk=>iV (Bu (λk=>BY (f k)) n k)])) .fail
theorem p94:As Tryz.prog Gl 49 YQ:=by
 refine Ah A2 mixed Tryz.func49 (by kernel_rfl) (by kernel_rfl) λvs v h' h=>?_;obtain ⟨n,f,ha,h1⟩:=Dg h;obtain ⟨hn,hq⟩:=Ab h1;have:=Aa hq;simp only [Prod.mk.injEq] at this;obtain ⟨rfl,rfl⟩:=this;have hx:=Yg Y3 Afl [(0,V4 n f)];have hL:=Nr Afl [(0,V4 n f)];have h0:∀ L,(IF Afl [(0,V4 n f)] 0 (NB L) (Wq n f)).sem=some (Z5 n f n (Kt (λk=>BY (f k)) n)):=λL=>by
  show (Ax (NB L) (V4 n f) (n+1) (Mj (Wq n f) [(1,bV false)])).sem=_;rw [AkJ,<- Ac7 (λk=>BY (f k))];exact AhD L n f (KX hn) n 0 _ (n+1) (by omega) (by omega)
 have hw:=Bh (Bg hL hL) _ (AoB _ _ n f _ (HF hn) NQ (AB (h0 _)));rw [PH (λk=>BY (f k)) n] at hw;exact ⟨_,cxZ Gl WT Afl [(0,V4 n f)],_,ha,rfl,hx.1,hx.2,hw,Au.refl _⟩
def V3 (n:Nat) (f:Nat->E6):Lp:=⟨bmK 21 0 [0,3,4],2,bmK 21 0 [3],2,n+1⟩
def Agd (n:Nat) (f:Nat->E6) (i:Nat) (h:Nat->Bool) (j:Nat->V):St:=⟨jsV 21 0 j [(0,.sl 6 n (λi=>eV (f i))),(3,.ref 1),(4,nV i)],[.row 3 1 0 Ac,.row 4 1 i (λk=>bV (h k))]⟩
def Z4 (n:Nat) (f:Nat->E6) (i:Nat) (h:Nat->Bool):Ex×St:=(.ex 0,⟨jsV 21 0 Ac [(3,.ref 1)],[.row 3 1 0 Ac,.row 4 1 i (λk=>bV (h k))]⟩)
noncomputable def NA (L:LT):St->T (Ex×St):=λst=>A6 tab ⟨A5 WT,L,Gl⟩ (Aw Tryz.f50 0) 0 st
section
variable (L:LT) (n:Nat) (f:Nat->E6) (i:Nat) (h:Nat->Bool)  (j:Nat->V)
include L n f i h j
theorem AmC (h0:ilt (ofNat i) (ofNat n)=false):Am (NA L) (V3 n f) (Agd n f i h j)=some ((.ex 0),⟨jsV 21 0 Ac [(3,.ref 1)],[.row 3 1 0 Ac,.row 4 1 i (λk=>bV (h k))]⟩):=by
 exact Ag (ks:=[kn h0]) (by kernel_rfl)
theorem AmB (h0:ilt (ofNat i) (ofNat n)=true) (h1:Av (ile 0 (ofNat i)) (ilt (ofNat i) (ofNat n))=true) (h2:Ck i 1 1=true):Am (NA L) (V3 n f) (Agd n f i h j)=some (.nm,⟨jsV 21 0 Ac [(0,.sl 6 n (λi=>eV (f i))),(3,.ref 1),(4,iV (wr .i64 (Ai (ofNat i) 1)))],[.row 3 1 0 Ac,.row 4 1 (Bv i 1) (AC i (λk=>bV (h k)) (bV (BI (f i))))]⟩):=by
 exact Ag (ks:=[kn h0,kn h1,kn h2]) (by kernel_rfl)
end
def Wp (n:Nat) (f:Nat->E6) :St:=⟨jsV 21 0 (λ_=>A7) [(0,.sl 6 n (λi=>eV (f i))),(2,.ref 0),(3,.ref 1),(4,iV 0)],[.row 3 1 0 Ac,.row 4 1 0 Ac]⟩
theorem AoA (L:LT) (p0:PT) (n:Nat) (f:Nat->E6) (q:Nat->Bool) (h0:N6 n=true) (h10:BM [.row 3 1 n (λ_=>iV 0)]=true) (hp0:p0 (NA (onP 0 p0 (Z4 n f n q) L)) (Wp n f)=true):(AL (Ar tab ⟨A5 WT,onP 0 p0 (Z4 n f n q) L,Gl⟩ Tryz.f50 [Ap n f] [])).sem=some ((.ref 0),[.row 3 1 n (λk=>iV (Bu q n k))]):=by
 exact Ag (ks:=[kn hp0,kL n,kn h0,kn h10]) (by kernel_rfl)
theorem AhC (L:LT) (n:Nat) (f:Nat->E6) (h8:n * 8 <= 140737488355328):∀ (e i:Nat) (j:Nat->V) (q:Nat),n=i+e->e<q ->
  (Ax (NA L) (V3 n f) q (Agd n f i (Kt (λk=>BI (f k)) i) j)).sem=some (Z4 n f n (Kt (λk=>BI (f k)) n))
 | 0,i,j,q+1,h,_=>by
  have:n=i:=by omega
  subst this;exact Ae (AmC L n f _ _ j (A1 (Nat.le_refl _)))
 | e+1,i,j,q+1,h,h2=>by
  have hl:i<n:=by omega
  have ha:Ck i 1 1=true:=SZ (by omega);rw [Ae (AmB L n f i (Kt (λk=>BI (f k)) i) j (ofNat_lt hl) (Af hl) ha),AK,AT hl (by omega)];have:=Si (λk=>BI (f k)) i;rw [this];exact AhC L n f h8 e (i+1) Ac q (by omega) (by omega)
def Afk:List (Nat×List (Nat×V)):=[(0,[(1,bV false)])]
theorem AkI (n:Nat) (f:Nat->E6):Mj (Wp n f) [(1,bV false)]=Agd n f 0 (λ_=>false) (λi=>nth (Wp n f).t i):=by kernel_rfl
def YP:List V->A3:=Oy λn f=>.br (Cl n) (.leaf (.ref 0,[.row 3 1 n λk=>iV (Bu (λk=>BI (f k)) n k)])) .fail
theorem p95:As Tryz.prog Gl 50 YP:=by
 refine Ah A2 mixed Tryz.func50 (by kernel_rfl) (by kernel_rfl) λvs v h' h=>?_;obtain ⟨n,f,ha,h1⟩:=Dg h;obtain ⟨hn,hq⟩:=Ab h1;have:=Aa hq;simp only [Prod.mk.injEq] at this;obtain ⟨rfl,rfl⟩:=this;have hx:=Yg Y3 Afk [(0,V3 n f)];have hL:=Nr Afk [(0,V3 n f)];have h0:∀ L,(IF Afk [(0,V3 n f)] 0 (NA L) (Wp n f)).sem=some (Z4 n f n (Kt (λk=>BI (f k)) n)):=λL=>by
  show (Ax (NA L) (V3 n f) (n+1) (Mj (Wp n f) [(1,bV false)])).sem=_;rw [AkI,<- Ac7 (λk=>BI (f k))];exact AhC L n f (KX hn) n 0 _ (n+1) (by omega) (by omega)
 have hw:=Bh (Bg hL hL) _ (AoA _ _ n f _ (HF hn) NQ (AB (h0 _)));rw [PH (λk=>BI (f k)) n] at hw;exact ⟨_,cxZ Gl WT Afk [(0,V3 n f)],_,ha,rfl,hx.1,hx.2,hw,Au.refl _⟩
theorem NV {p q:Nat->Bool} {n:Nat} (h:∀ i,i<n->q i=p i):Bu q n=Bu p n:=by
 funext k;unfold Bu;by_cases hk:k<n
 ·rw [Ei k λi hi=>h i (by omega),Ei n h]
 ·simp [hk]
end Go.Proofs.YtkbgidbledjejaaGreat.Ed
