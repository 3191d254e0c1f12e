/-
  The document's parts, threads, locations: the part of each edge. No conditions.
-/
import Derived.Test.YtkgdhhieomndeaaGreatDoorCyO
namespace Go.Proofs.YtkgdhhieomndeaaGreatDoor.Ed
open Go.Sy
open Int (ofNat)
def Q8 (n:Nat) (p:Nat->Bool):Lp:=⟨bmK 57 0 [0,3,4,5],2,bmK 57 0 [0,3,4],2,n+1⟩
def TI (n:Nat) (p:Nat->Bool) (s:Int) (i:Nat) (h:Nat->Int) (j:Nat->V):St:=⟨jsV 57 0 j [(0,.sl 1 n (λk=>bV (p k))),(3,.ref 1),(4,iV s),(5,nV i)],[.row 3 1 0 Aa,.row 3 1 i (λk=>iV (h k))]⟩
def Gf (n:Nat) (p:Nat->Bool) (s:Int) (i:Nat) (h:Nat->Int):Ex×St:=(.ex 0,⟨jsV 57 0 Aa [(0,.sl 1 n (λk=>bV (p k))),(3,.ref 1),(4,iV s)],[.row 3 1 0 Aa,.row 3 1 i (λk=>iV (h k))]⟩)
noncomputable def EQ (L:LT):St->T (Ex×St):=λst=>AD tab ⟨Am tb0,L,Gl⟩ (Au Tryz.f109 0) 0 st
section
variable (L:LT) (n:Nat) (p:Nat->Bool) (s:Int) (i:Nat) (h:Nat->Int)  (j:Nat->V)
include L n p s i h j
theorem Aj7 (h0:ilt (ofNat i) (ofNat n)=false):Al (EQ L) (Q8 n p) (TI n p s i h j)=some ((.ex 0),⟨jsV 57 0 Aa [(0,.sl 1 n (λk=>bV (p k))),(3,.ref 1),(4,iV s)],[.row 3 1 0 Aa,.row 3 1 i (λk=>iV (h k))]⟩):=by
 exact Ac (ks:=[kn h0]) (by kernel_rfl)
theorem Aj5 (h0:ilt (ofNat i) (ofNat n)=true) (h2:Bn i 1 8=true) (h1:Ao (ile 0 (ofNat i)) (ilt (ofNat i) (ofNat n))=true) (h3:p i=true):Al (EQ L) (Q8 n p) (TI n p s i h j)=some (.nm,⟨jsV 57 0 Aa [(0,.sl 1 n (λk=>bV (p k))),(3,.ref 1),(4,iV (wr .i64 (Ak s 1))),(5,iV (wr .i64 (Ak (ofNat i) 1)))],[.row 3 1 0 Aa,.row 3 1 (AV i 1) (As i (λk=>iV (h k)) (iV s))]⟩):=by
 exact Ac (ks:=[kn h0,kn h2,kn h1,kn h3]) (by kernel_rfl)
theorem Aj6 (h0:ilt (ofNat i) (ofNat n)=true) (h2:Bn i 1 8=true) (h1:Ao (ile 0 (ofNat i)) (ilt (ofNat i) (ofNat n))=true) (h3:p i=false):Al (EQ L) (Q8 n p) (TI n p s i h j)=some (.nm,⟨jsV 57 0 Aa [(0,.sl 1 n (λk=>bV (p k))),(3,.ref 1),(4,iV s),(5,iV (wr .i64 (Ak (ofNat i) 1)))],[.row 3 1 0 Aa,.row 3 1 (AV i 1) (As i (λk=>iV (h k)) (iV s))]⟩):=by
 exact Ac (ks:=[kn h0,kn h2,kn h1,kn h3]) (by kernel_rfl)
end
def IK (n:Nat) (p:Nat->Bool) :St:=⟨jsV 57 0 (λ_=>A9) [(0,.sl 1 n (λk=>bV (p k))),(2,.ref 0),(3,.ref 1),(4,iV 0),(5,iV 0)],[.row 3 1 0 Aa,.row 3 1 0 Aa]⟩
def KH (n:Nat) (p:Nat->Bool):Lp:=⟨bmK 57 0 [0,3,7],2,bmK 57 0 [3],2,n+1⟩
def K3 (n:Nat) (p:Nat->Bool) (d:Int) (g:Nat->Int) (j:Nat->V):St:=⟨jsV 57 0 j [(0,.sl 1 n (λk=>bV (p k))),(3,.ref 1),(7,iV d)],[.row 3 1 0 Aa,.row 3 1 n (λk=>iV (g k))]⟩
def Ln (n:Nat) (p:Nat->Bool) (d:Int) (g:Nat->Int):Ex×St:=(.ex 2,⟨jsV 57 0 Aa [(3,.ref 1)],[.row 3 1 0 Aa,.row 3 1 n (λk=>iV (g k))]⟩)
noncomputable def H4 (L:LT):St->T (Ex×St):=λst=>AD tab ⟨Am tb0,L,Gl⟩ (Au Tryz.f109 2) 2 st
section
variable (L:LT) (n:Nat) (p:Nat->Bool) (d:Int) (g:Nat->Int)  (j:Nat->V)
include L n p d g j
theorem Ajg (h0:ile 0 d=false):Al (H4 L) (KH n p) (K3 n p d g j)=some ((.ex 2),⟨jsV 57 0 Aa [(3,.ref 1)],[.row 3 1 0 Aa,.row 3 1 n (λk=>iV (g k))]⟩):=by
 exact Ac (ks:=[kn h0,kn h0,kn h0,kn h0,kn h0,kn h0,kF]) (by kernel_rfl)
theorem Ajf (h0:ile 0 d=true) (h1:Ao (ile 0 d) (ilt d (ofNat n))=true) (h3:p (toN d)=true):Al (H4 L) (KH n p) (K3 n p d g j)=some ((.ex 2),⟨jsV 57 0 Aa [(3,.ref 1)],[.row 3 1 0 Aa,.row 3 1 n (λk=>iV (g k))]⟩):=by
 exact Ac (ks:=[kn h0,kn h0,kn h0,kn h1,kn h0,kn h0,kn h0,kN (kn h3)]) (by kernel_rfl)
theorem Aje (h0:ile 0 d=true) (h1:Ao (ile 0 d) (ilt d (ofNat n))=true) (h3:p (toN d)=false) (h2:nlt (toN d) n=true):Al (H4 L) (KH n p) (K3 n p d g j)=some (.nm,⟨jsV 57 0 Aa [(0,.sl 1 n (λk=>bV (p k))),(3,.ref 1),(7,iV (wr .i64 (AC d 1)))],[.row 3 1 0 Aa,.row 3 1 n (BH (λk=>iV (g k)) (toN d) (iV 0))]⟩):=by
 exact Ac (ks:=[kn h0,kn h0,kn h0,kn h1,kn h0,kn h0,kn h0,kN (kn h3),kn h1,kn h2]) (by kernel_rfl)
end
def Agb (n:Nat) (p:Nat->Bool) (s:Int) (g:Nat->Int):Nat->V:=lkU 144110790046121766 [(4,iV s),(6,nV n),(24,.sl 1 n (λk=>bV (p k))),(25,nV n),(26,nV n),(27,bV (ilt 0 (ofNat n))),(28,bV (ilt 0 (ofNat n))),(29,iV s),(30,bV (ilt 0 s)),(31,bV (ilt 0 s)),(32,bV (ilt 0 s)),(33,.sl 1 n (λk=>bV (p k))),(34,nV n),(35,iV (wr .i64 (AC (ofNat n) 1))),(36,.pp (bV (p (toN (wr .i64 (AC (ofNat n) 1)))))),(37,bV (p (toN (wr .i64 (AC (ofNat n) 1))))),(38,bV (A5 (p (toN (wr .i64 (AC (ofNat n) 1)))))),(39,bV (A5 (p (toN (wr .i64 (AC (ofNat n) 1)))))),(40,nV n),(41,iV (wr .i64 (AC (ofNat n) 1)))]
section
variable (L:LT) (p0:PT) (n:Nat) (p:Nat->Bool) (s:Int) (g:Nat->Int)
include L p0 n p s g
theorem Aim (h0:ilt 0 (ofNat n)=false) (hp0:p0 (EQ (onP 0 p0 (Gf n p s n g) L)) (IK n p)=true):(Ay (Ai tab ⟨Am tb0,onP 0 p0 (Gf n p s n g) L,Gl⟩ Tryz.f109 [.sl 1 n (λk=>bV (p k))] [])).sem=some ((.ref 0),[.row 3 1 n (λk=>iV (g k))]):=by
 exact Ac (ks:=[kn hp0,kn h0,kn h0,kn h0,kF,kF,kF,kF,kF,kF,kF,kF]) (by kernel_rfl)
theorem Ail (h0:ilt 0 (ofNat n)=true) (h1:ilt 0 s=false) (hp0:p0 (EQ (onP 0 p0 (Gf n p s n g) L)) (IK n p)=true):(Ay (Ai tab ⟨Am tb0,onP 0 p0 (Gf n p s n g) L,Gl⟩ Tryz.f109 [.sl 1 n (λk=>bV (p k))] [])).sem=some ((.ref 0),[.row 3 1 n (λk=>iV (g k))]):=by
 exact Ac (ks:=[kn hp0,kn h0,kn h0,kn h0,kn h1,kn h1,kn h1,kn h1,kn h1,kn h1,kn h1,kF]) (by kernel_rfl)
theorem Aik (h0:ilt 0 (ofNat n)=true) (h1:ilt 0 s=true) (h2:Ao (ile 0 (wr .i64 (AC (ofNat n) 1))) (ilt (wr .i64 (AC (ofNat n) 1)) (ofNat n))=true) (h3:p (toN (wr .i64 (AC (ofNat n) 1)))=true) (hp0:p0 (EQ (onP 0 p0 (Gf n p s n g) L)) (IK n p)=true):(Ay (Ai tab ⟨Am tb0,onP 0 p0 (Gf n p s n g) L,Gl⟩ Tryz.f109 [.sl 1 n (λk=>bV (p k))] [])).sem=some ((.ref 0),[.row 3 1 n (λk=>iV (g k))]):=by
 exact Ac (ks:=[kn hp0,kn h0,kn h0,kn h0,kn h1,kn h1,kn h1,kn h1,kn h2,kn h1,kn h1,kn h1,kN (kn h3)]) (by kernel_rfl)
end
theorem Aij (L:LT) (p0:PT) (p2:PT) (n:Nat) (p:Nat->Bool) (s:Int) (g:Nat->Int) (d:Int) (u:Nat->Int) (h0:ilt 0 (ofNat n)=true) (h1:ilt 0 s=true) (h2:Ao (ile 0 (wr .i64 (AC (ofNat n) 1))) (ilt (wr .i64 (AC (ofNat n) 1)) (ofNat n))=true) (h3:p (toN (wr .i64 (AC (ofNat n) 1)))=false) (hp0:p0 (EQ (onP 0 p0 (Gf n p s n g) (onP 2 p2 (Ln n p d u) L))) (IK n p)=true) (hp2:p2 (H4 (onP 0 p0 (Gf n p s n g) (onP 2 p2 (Ln n p d u) L))) (K3 n p (wr .i64 (AC (ofNat n) 1)) g (Agb n p s g))=true):(Ay (Ai tab ⟨Am tb0,onP 0 p0 (Gf n p s n g) (onP 2 p2 (Ln n p d u) L),Gl⟩ Tryz.f109 [.sl 1 n (λk=>bV (p k))] [])).sem=some ((.ref 0),[.row 3 1 n (λk=>iV (u k))]):=by
 exact Ac (ks:=[kn hp0,kn h0,kn h0,kn h0,kn h1,kn h1,kn h1,kn h1,kn h2,kn h1,kn h1,kn h1,kN (kn h3),kn hp2]) (by kernel_rfl)
theorem Ud (p:Nat->Bool) (i:Nat):As i (λk=>iV (Dc p i k)) (iV (ofNat (An p i)))=λk=>iV (Dc p (i+1) k):=by
 funext k;rw [Bo,show Nat.beq k i=decide (k=i) by rw [Bool.eq_iff_iff]; simp];unfold Dc;by_cases h:k=i
 ·subst h; simp
 ·by_cases h2:k<i
  ·have:k<i+1:=by omega
   simp [h,h2,this]
  ·have:¬ k<i+1:=by omega
   simp [h,h2,this]
theorem B7 {p:Nat->Bool} {i:Nat} (h:p i=true):An p (i+1)=An p i+1:=by rw [An,h]
theorem Cc {p:Nat->Bool} {i:Nat} (h:p i=false):An p (i+1)=An p i:=by rw [An,h]
theorem Wi (L:LT) (n:Nat) (p:Nat->Bool) (h8:n * 8 <= 140737488355328):∀ (e i:Nat) (j:Nat->V) (q:Nat),n=i+e->e<q ->
  (A3 (EQ L) (Q8 n p) q (TI n p (ofNat (An p i)) i (Dc p i) j)).sem=some (Gf n p (ofNat (An p n)) n (Dc p n))
 | 0,i,j,q+1,h,_=>by
  have:n=i:=by omega
  subst this;exact Ae (Aj7 L n p _ _ _ j (Aw (Nat.le_refl _)))
 | e+1,i,j,q+1,h,h2=>by
  have hc:=Bm p i;have hl:i<n:=by omega
  have ha:Bn i 1 8=true:=C0 (by omega);cases hp:p i with
  | true =>rw [Ae (Aj5 L n p (ofNat (An p i)) i (Dc p i) j (ofNat_lt hl) ha (Ag hl) hp),A6,Ap hl (by omega),Ap (show An p i<n by omega) (by omega),<- B7 hp,Ud p i];exact Wi L n p h8 e (i+1) Aa q (by omega) (by omega)
  | false =>rw [Ae (Aj6 L n p (ofNat (An p i)) i (Dc p i) j (ofNat_lt hl) ha (Ag hl) hp),A6,Ap hl (by omega),Ud p i,<- Cc hp];exact Wi L n p h8 e (i+1) Aa q (by omega) (by omega)
theorem XJ (L:LT) (n:Nat) (p:Nat->Bool) (hn:n <= 4611686018427387904) (hs:0<An p n):∀ (D:Nat) (j:Nat->V) (q:Nat),D <= n->D<q->(∀ k,D <= k->k<n->An p k=An p n) ->
  (A3 (H4 L) (KH n p) q (K3 n p (dn D) (Dc p D) j)).sem=some (Ln n p 0 (AG p n))
 | 0,j,q+1,h,_,hb=>by
  rw [<- HF p n 0 h (λk hk=>absurd hk (Nat.not_lt_zero _)) hb];exact Ae (Ajg L n p (dn 0) (Dc p 0) j rfl)
 | D+1,j,q+1,h,h2,hb=>by
  have hD:D<n:=by omega
  have hk:nlt D n=true:=by simpa [nlt] using hD
  cases hp:p D with
  | false =>
   have he:An p D=An p n:=by
    rw [<- Cc hp];by_cases h5:D+1=n
    ·rw [h5]
    ·exact hb (D+1) (Nat.le_refl _) (by omega)
   rw [show dn (D+1)=ofNat D from rfl,Ae (Aje L n p (ofNat D) (Dc p (D+1)) j (AX D) (Ag hD) hp hk),A6,QM (show D <= n by omega) hn,C3,show toN (ofNat D)=D from rfl,LM];exact XJ L n p hn hs D Aa q (by omega) (by omega) λk h3 h4=>by
    by_cases h5:k=D
    ·subst h5; exact he
    ·exact hb k (by omega) h4
  | true =>
   have h6:An p D<An p n:=by
    have:=Bg p (show D+1 <= n by omega);rw [B7 hp] at this;omega
   rw [<- HF p n (D+1) h (λk hk=>by have:=Bg p (show k <= D by omega); omega) hb];rw [show dn (D+1)=ofNat D from rfl];exact Ae (Ajf L n p (ofNat D) (Dc p (D+1)) j (AX D) (Ag hD) hp)
def Tn:List (Nat×List (Nat×V)):=[(0,[(1,iV 0)])]
def OB (n:Nat) (p:Nat->Bool):List (Nat×Lp):=[(0,Q8 n p),(2,KH n p)]
def LV:List V->AE
 | [v]=>apB v λn p=>.br (E9 n) (.leaf (.ref 0,[.row 3 1 n λk=>iV (AG p n k)])) .fail
 | _=>.fail
theorem Agm (n:Nat) (p:Nat->Bool):Gb (IK n p) [(1,iV 0)]=TI n p 0 0 (λ_=>0) (λi=>nth (IK n p).t i):=by kernel_rfl
theorem Aei (n:Nat) (p:Nat->Bool) (h8:E9 n=true) :
  (Ay (Ai tab (cxZ Gl tb0 Tn (OB n p)) Tryz.f109 [Xs n p] [])).sem=some (.ref 0,[.row 3 1 n λk=>iV (AG p n k)]):=by
 have h8':n * 8 <= 140737488355328:=of_decide_eq_true h8;have hn:n <= 4611686018427387904:=by omega
 have hL:=Ho Tn (OB n p);have h0:∀ L,(Eb Tn (OB n p) 0 (EQ L) (IK n p)).sem=some (Gf n p (ofNat (An p n)) n (Dc p n)):=λL=>by
  show (A3 (EQ L) (Q8 n p) (n+1) (Gb (IK n p) [(1,iV 0)])).sem=_;rw [Agm,<- Wk p];exact Wi L n p h8' n 0 _ (n+1) (by omega) (by omega)
 cases n with
 | zero =>rw [<- RU p 0 rfl];exact AP (AI hL hL) _ (Aim _ _ 0 p _ _ rfl (Az (h0 _)))
 | succ m =>
  have c0:ilt 0 (ofNat (m+1))=true:=by rw [show (0:Int)=ofNat 0 from rfl,BP]; simp
  have e1:wr .i64 (AC (ofNat (m+1)) 1)=ofNat m:=QM (Nat.le_refl _) hn;have e2:toN (ofNat m)=m:=rfl;cases hs:ilt 0 (ofNat (An p (m+1))) with
  | false =>
   have hz:An p (m+1)=0:=by simpa [ilt] using hs
   have hw:=AP (AI hL hL) _ (Ail _ _ (m+1) p _ _ c0 hs (Az (h0 _)));rw [<- RU p (m+1) hz];exact hw
  | true =>
   have hz:0<An p (m+1):=by simpa [ilt] using hs
   have hb:Ao (ile 0 (wr .i64 (AC (ofNat (m+1)) 1))) (ilt (wr .i64 (AC (ofNat (m+1)) 1)) (ofNat (m+1)))=true:=by rw [e1]; exact Ag (Nat.lt_succ_self m)
   cases hp:p m with
   | true =>have hw:=AP (AI hL hL) _ (Aik _ _ (m+1) p _ _ c0 hs hb (by rw [e1,e2]; exact hp) (Az (h0 _)));rw [<- HF p (m+1) (m+1) (Nat.le_refl _) (λk hk=>by have:=Bg p (show k <= m by omega); rw [B7 hp]; omega) (λk h1 h2=>by omega)];exact hw
   | false =>have h2:=λL j=>XJ L (m+1) p hn hz (m+1) j (m+2) (Nat.le_refl _) (by omega) (λk h1 h2=>by omega);rw [show dn (m+1)=ofNat m from rfl,<- e1] at h2;exact AP (AI (AI hL hL) hL) _ (Aij _ _ _ (m+1) p _ (Dc p (m+1)) 0 (AG p (m+1)) c0 hs hb (by rw [e1,e2]; exact hp) (Az (h0 _)) (Az (h2 _ _)))
theorem ApB:Ax Tryz.prog Gl 109 LV:=by
 refine Aj A7 mixed Tryz.func109 (by kernel_rfl) (by kernel_rfl) λvs v h' h=>?_;unfold LV at h;split at h
 ·rename_i u
  obtain ⟨n,p,ha,h1⟩:=AdO h;obtain ⟨h8,hq⟩:=Ad h1;have:=Ab hq;simp only [Prod.mk.injEq] at this;obtain ⟨rfl,rfl⟩:=this;have hA:Bj [u] [Xs n p]:=λS w cs hv=>by
   obtain ⟨c,l,rfl,q1,q2⟩:=hv;exact ⟨c,l,rfl,ha S w c q1,q2⟩
  have hx:=Pp CS Tn (OB n p);exact ⟨_,cxZ Gl tb0 Tn (OB n p),_,hA,rfl,hx.1,hx.2,Aei n p h8,Av.refl _⟩
 ·cases h
theorem En {n:Nat}:Cb [.row 3 1 n (λ_=>iV 0)]=true:=by
 simp [Cb,M6,iV]
noncomputable def VC:AK:=(78,BW λe=>bV (AB e))::(79,BW λe=>bV (AN e))::(109,LV)::[]
theorem X5:Aq Tryz.prog Gl VC:=.cons p60 <| .cons p61 <| .cons ApB .nil
def J8 (p:Nat->Bool) (i k:Nat):Bool:=decide (k<i) && p k
theorem Ab6 (p:Nat->Bool):J8 p 0=λ_=>false:=by
 funext k;simp [J8]
theorem Qx (p:Nat->Bool) (i:Nat):As i (λk=>bV (J8 p i k)) (bV (p i))=λk=>bV (J8 p (i+1) k):=by
 funext k;rw [Bo,show Nat.beq k i=decide (k=i) by rw [Bool.eq_iff_iff]; simp];unfold J8;by_cases h:k=i
 ·subst h; simp
 ·by_cases h2:k<i
  ·have:k<i+1:=by omega
   simp [h,h2,this]
  ·have:¬ k<i+1:=by omega
   simp [h,h2,this]
theorem D3 {p q:Nat->Bool}:∀ k,(∀ i,i<k->q i=p i)->An q k=An p k
 | 0,_=>rfl
 | k+1,h=>by
  rw [An,An,h k (Nat.lt_succ_self k),D3 k λi hi=>h i (by omega)]
theorem Oy (p:Nat->Bool) (n:Nat):AG (J8 p n) n=AG p n:=by
 have hq:∀ i,i<n->J8 p n i=p i:=λi hi=>by simp [J8,hi]
 funext k;unfold AG;by_cases h:k<n
 ·rw [D3 k λi hi=>hq i (by omega),D3 n hq]
 ·simp [h]
theorem Ka {n:Nat} (h:BC n=true):n * 8 <= 140737488355328:=of_decide_eq_true (Ga h)
def Uq (n:Nat) (f:Nat->E6):Lp:=⟨bmK 21 0 [0,3,4],2,bmK 21 0 [3],2,n+1⟩
def AeD (n:Nat) (f:Nat->E6) (i:Nat) (h:Nat->Bool) (j:Nat->V):St:=⟨jsV 21 0 j [(0,.sl 6 n (λi=>eV (f i))),(3,.ref 1),(4,nV i)],[.row 3 1 0 Aa,.row 4 1 i (λk=>bV (h k))]⟩
def YE (n:Nat) (f:Nat->E6) (i:Nat) (h:Nat->Bool):Ex×St:=(.ex 0,⟨jsV 21 0 Aa [(3,.ref 1)],[.row 3 1 0 Aa,.row 4 1 i (λk=>bV (h k))]⟩)
noncomputable def M3 (L:LT):St->T (Ex×St):=λst=>AD tab ⟨Am VC,L,Gl⟩ (Au Tryz.f80 0) 0 st
section
variable (L:LT) (n:Nat) (f:Nat->E6) (i:Nat) (h:Nat->Bool)  (j:Nat->V)
include L n f i h j
theorem Am3 (h0:ilt (ofNat i) (ofNat n)=false):Al (M3 L) (Uq n f) (AeD n f i h j)=some ((.ex 0),⟨jsV 21 0 Aa [(3,.ref 1)],[.row 3 1 0 Aa,.row 4 1 i (λk=>bV (h k))]⟩):=by
 exact Ac (ks:=[kn h0]) (by kernel_rfl)
theorem Am2 (h0:ilt (ofNat i) (ofNat n)=true) (h1:Ao (ile 0 (ofNat i)) (ilt (ofNat i) (ofNat n))=true) (h2:Bn i 1 1=true):Al (M3 L) (Uq n f) (AeD n f i h j)=some (.nm,⟨jsV 21 0 Aa [(0,.sl 6 n (λi=>eV (f i))),(3,.ref 1),(4,iV (wr .i64 (Ak (ofNat i) 1)))],[.row 3 1 0 Aa,.row 4 1 (AV i 1) (As i (λk=>bV (h k)) (bV (AB (f i))))]⟩):=by
 exact Ac (ks:=[kn h0,kn h1,kn h2]) (by kernel_rfl)
end
def UV (n:Nat) (f:Nat->E6) :St:=⟨jsV 21 0 (λ_=>A9) [(0,.sl 6 n (λi=>eV (f i))),(2,.ref 0),(3,.ref 1),(4,iV 0)],[.row 3 1 0 Aa,.row 4 1 0 Aa]⟩
theorem Aoy (L:LT) (p0:PT) (n:Nat) (f:Nat->E6) (q:Nat->Bool) (h0:E9 n=true) (h10:Cb [.row 3 1 n (λ_=>iV 0)]=true) (hp0:p0 (M3 (onP 0 p0 (YE n f n q) L)) (UV n f)=true):(Ay (Ai tab ⟨Am VC,onP 0 p0 (YE n f n q) L,Gl⟩ Tryz.f80 [AS n f] [])).sem=some ((.ref 0),[.row 3 1 n (λk=>iV (AG q n k))]):=by
 exact Ac (ks:=[kn hp0,kL n,kn h0,kn h10]) (by kernel_rfl)
theorem AgK (L:LT) (n:Nat) (f:Nat->E6) (h8:n * 8 <= 140737488355328):∀ (e i:Nat) (j:Nat->V) (q:Nat),n=i+e->e<q ->
  (A3 (M3 L) (Uq n f) q (AeD n f i (J8 (λk=>AB (f k)) i) j)).sem=some (YE n f n (J8 (λk=>AB (f k)) n))
 | 0,i,j,q+1,h,_=>by
  have:n=i:=by omega
  subst this;exact Ae (Am3 L n f _ _ j (Aw (Nat.le_refl _)))
 | e+1,i,j,q+1,h,h2=>by
  have hl:i<n:=by omega
  have ha:Bn i 1 1=true:=C0 (by omega);rw [Ae (Am2 L n f i (J8 (λk=>AB (f k)) i) j (ofNat_lt hl) (Ag hl) ha),A6,Ap hl (by omega)];have:=Qx (λk=>AB (f k)) i;rw [this];exact AgK L n f h8 e (i+1) Aa q (by omega) (by omega)
def Aec:List (Nat×List (Nat×V)):=[(0,[(1,bV false)])]
theorem Akr (n:Nat) (f:Nat->E6):Gb (UV n f) [(1,bV false)]=AeD n f 0 (λ_=>false) (λi=>nth (UV n f).t i):=by kernel_rfl
def RX:List V->AE:=Gs λn f=>.br (BC n) (.leaf (.ref 0,[.row 3 1 n λk=>iV (AG (λk=>AB (f k)) n k)])) .fail
theorem p94:Ax Tryz.prog Gl 80 RX:=by
 refine Aj A7 mixed Tryz.func80 (by kernel_rfl) (by kernel_rfl) λvs v h' h=>?_;obtain ⟨n,f,ha,h1⟩:=C7 h;obtain ⟨hn,hq⟩:=Ad h1;have:=Ab hq;simp only [Prod.mk.injEq] at this;obtain ⟨rfl,rfl⟩:=this;have hx:=Pp X5 Aec [(0,Uq n f)];have hL:=Ho Aec [(0,Uq n f)];have h0:∀ L,(Eb Aec [(0,Uq n f)] 0 (M3 L) (UV n f)).sem=some (YE n f n (J8 (λk=>AB (f k)) n)):=λL=>by
  show (A3 (M3 L) (Uq n f) (n+1) (Gb (UV n f) [(1,bV false)])).sem=_;rw [Akr,<- Ab6 (λk=>AB (f k))];exact AgK L n f (Ka hn) n 0 _ (n+1) (by omega) (by omega)
 have hw:=AP (AI hL hL) _ (Aoy _ _ n f _ (Ga hn) En (Az (h0 _)));rw [Oy (λk=>AB (f k)) n] at hw;exact ⟨_,cxZ Gl VC Aec [(0,Uq n f)],_,ha,rfl,hx.1,hx.2,hw,Av.refl _⟩
def Up (n:Nat) (f:Nat->E6):Lp:=⟨bmK 21 0 [0,3,4],2,bmK 21 0 [3],2,n+1⟩
def AeC (n:Nat) (f:Nat->E6) (i:Nat) (h:Nat->Bool) (j:Nat->V):St:=⟨jsV 21 0 j [(0,.sl 6 n (λi=>eV (f i))),(3,.ref 1),(4,nV i)],[.row 3 1 0 Aa,.row 4 1 i (λk=>bV (h k))]⟩
def YD (n:Nat) (f:Nat->E6) (i:Nat) (h:Nat->Bool):Ex×St:=(.ex 0,⟨jsV 21 0 Aa [(3,.ref 1)],[.row 3 1 0 Aa,.row 4 1 i (λk=>bV (h k))]⟩)
noncomputable def M1 (L:LT):St->T (Ex×St):=λst=>AD tab ⟨Am VC,L,Gl⟩ (Au Tryz.f81 0) 0 st
section
variable (L:LT) (n:Nat) (f:Nat->E6) (i:Nat) (h:Nat->Bool)  (j:Nat->V)
include L n f i h j
theorem Am1 (h0:ilt (ofNat i) (ofNat n)=false):Al (M1 L) (Up n f) (AeC n f i h j)=some ((.ex 0),⟨jsV 21 0 Aa [(3,.ref 1)],[.row 3 1 0 Aa,.row 4 1 i (λk=>bV (h k))]⟩):=by
 exact Ac (ks:=[kn h0]) (by kernel_rfl)
theorem Am0 (h0:ilt (ofNat i) (ofNat n)=true) (h1:Ao (ile 0 (ofNat i)) (ilt (ofNat i) (ofNat n))=true) (h2:Bn i 1 1=true):Al (M1 L) (Up n f) (AeC n f i h j)=some (.nm,⟨jsV 21 0 Aa [(0,.sl 6 n (λi=>eV (f i))),(3,.ref 1),(4,iV (wr .i64 (Ak (ofNat i) 1)))],[.row 3 1 0 Aa,.row 4 1 (AV i 1) (As i (λk=>bV (h k)) (bV (AN (f i))))]⟩):=by
 exact Ac (ks:=[kn h0,kn h1,kn h2]) (by kernel_rfl)
end
def UU (n:Nat) (f:Nat->E6) :St:=⟨jsV 21 0 (λ_=>A9) [(0,.sl 6 n (λi=>eV (f i))),(2,.ref 0),(3,.ref 1),(4,iV 0)],[.row 3 1 0 Aa,.row 4 1 0 Aa]⟩
theorem Aox (L:LT) (p0:PT) (n:Nat) (f:Nat->E6) (q:Nat->Bool) (h0:E9 n=true) (h10:Cb [.row 3 1 n (λ_=>iV 0)]=true) (hp0:p0 (M1 (onP 0 p0 (YD n f n q) L)) (UU n f)=true):(Ay (Ai tab ⟨Am VC,onP 0 p0 (YD n f n q) L,Gl⟩ Tryz.f81 [AS n f] [])).sem=some ((.ref 0),[.row 3 1 n (λk=>iV (AG q n k))]):=by
 exact Ac (ks:=[kn hp0,kL n,kn h0,kn h10]) (by kernel_rfl)
theorem AgJ (L:LT) (n:Nat) (f:Nat->E6) (h8:n * 8 <= 140737488355328):∀ (e i:Nat) (j:Nat->V) (q:Nat),n=i+e->e<q ->
  (A3 (M1 L) (Up n f) q (AeC n f i (J8 (λk=>AN (f k)) i) j)).sem=some (YD n f n (J8 (λk=>AN (f k)) n))
 | 0,i,j,q+1,h,_=>by
  have:n=i:=by omega
  subst this;exact Ae (Am1 L n f _ _ j (Aw (Nat.le_refl _)))
 | e+1,i,j,q+1,h,h2=>by
  have hl:i<n:=by omega
  have ha:Bn i 1 1=true:=C0 (by omega);rw [Ae (Am0 L n f i (J8 (λk=>AN (f k)) i) j (ofNat_lt hl) (Ag hl) ha),A6,Ap hl (by omega)];have:=Qx (λk=>AN (f k)) i;rw [this];exact AgJ L n f h8 e (i+1) Aa q (by omega) (by omega)
def Aeb:List (Nat×List (Nat×V)):=[(0,[(1,bV false)])]
theorem Akq (n:Nat) (f:Nat->E6):Gb (UU n f) [(1,bV false)]=AeC n f 0 (λ_=>false) (λi=>nth (UU n f).t i):=by kernel_rfl
def RV:List V->AE:=Gs λn f=>.br (BC n) (.leaf (.ref 0,[.row 3 1 n λk=>iV (AG (λk=>AN (f k)) n k)])) .fail
theorem p95:Ax Tryz.prog Gl 81 RV:=by
 refine Aj A7 mixed Tryz.func81 (by kernel_rfl) (by kernel_rfl) λvs v h' h=>?_;obtain ⟨n,f,ha,h1⟩:=C7 h;obtain ⟨hn,hq⟩:=Ad h1;have:=Ab hq;simp only [Prod.mk.injEq] at this;obtain ⟨rfl,rfl⟩:=this;have hx:=Pp X5 Aeb [(0,Up n f)];have hL:=Ho Aeb [(0,Up n f)];have h0:∀ L,(Eb Aeb [(0,Up n f)] 0 (M1 L) (UU n f)).sem=some (YD n f n (J8 (λk=>AN (f k)) n)):=λL=>by
  show (A3 (M1 L) (Up n f) (n+1) (Gb (UU n f) [(1,bV false)])).sem=_;rw [Akq,<- Ab6 (λk=>AN (f k))];exact AgJ L n f (Ka hn) n 0 _ (n+1) (by omega) (by omega)
 have hw:=AP (AI hL hL) _ (Aox _ _ n f _ (Ga hn) En (Az (h0 _)));rw [Oy (λk=>AN (f k)) n] at hw;exact ⟨_,cxZ Gl VC Aeb [(0,Up n f)],_,ha,rfl,hx.1,hx.2,hw,Av.refl _⟩
noncomputable def tb53:AK:=(71,AjV)::(80,RX)::(81,RV)::[]
theorem tb53_ok:Aq Tryz.prog Gl tb53:=.cons p98 <| .cons p94 <| .cons p95 .nil
def K8 (g:Nat->(Nat->E6)->Nat->Int):List V->AE:=Gs λn f=>.br (BC n) (match Cp n f with
 | true=>.leaf (.tup [.ref 0,iV 0],[.row 3 1 n λk=>iV (g n f k)])
 | false=>.leaf (.tup [.ref 0,iV 30],[.row 3 1 0 λ_=>.und])) .fail
theorem p53:Ax Tryz.prog Gl 54 (K8 λn f=>AG (λk=>AB (f k)) n):=by
 refine Aj A7 mixed Tryz.func54 (by kernel_rfl) (by kernel_rfl) λvs v h' h=>?_;obtain ⟨n,f,ha,h1⟩:=C7 h;obtain ⟨hn,hq⟩:=Ad h1;have hx:=AH tb53_ok [];have hs:Af n=true:=WQ (Ga hn);cases hm:Cp n f with
 | true =>rw [hm] at hq;have:=Ab hq;simp only [Prod.mk.injEq] at this;obtain ⟨rfl,rfl⟩:=this;exact ⟨_,AA Gl tb53 [],_,ha,rfl,hx.1,hx.2,Ac (ks:=[kL n,kn hs,kN (kn hm),kL n,kn hn]) (by kernel_rfl)/-W:w53t-/,Av.refl _⟩
 | false =>rw [hm] at hq;have:=Ab hq;simp only [Prod.mk.injEq] at this;obtain ⟨rfl,rfl⟩:=this;exact ⟨_,AA Gl tb53 [],_,ha,rfl,hx.1,hx.2,Ac (ks:=[kL n,kn hs,kN (kn hm)]) (by kernel_rfl)/-W:w53f-/,Av.refl _⟩
theorem p54:Ax Tryz.prog Gl 55 (K8 λn f=>AG (λk=>AN (f k)) n):=by
 refine Aj A7 mixed Tryz.func55 (by kernel_rfl) (by kernel_rfl) λvs v h' h=>?_;obtain ⟨n,f,ha,h1⟩:=C7 h;obtain ⟨hn,hq⟩:=Ad h1;have hx:=AH tb53_ok [];have hs:Af n=true:=WQ (Ga hn);cases hm:Cp n f with
 | true =>rw [hm] at hq;have:=Ab hq;simp only [Prod.mk.injEq] at this;obtain ⟨rfl,rfl⟩:=this;exact ⟨_,AA Gl tb53 [],_,ha,rfl,hx.1,hx.2,Ac (ks:=[kL n,kn hs,kN (kn hm),kL n,kn hn]) (by kernel_rfl)/-W:w54t-/,Av.refl _⟩
 | false =>rw [hm] at hq;have:=Ab hq;simp only [Prod.mk.injEq] at this;obtain ⟨rfl,rfl⟩:=this;exact ⟨_,AA Gl tb53 [],_,ha,rfl,hx.1,hx.2,Ac (ks:=[kL n,kn hs,kN (kn hm)]) (by kernel_rfl)/-W:w54f-/,Av.refl _⟩
end Go.Proofs.YtkgdhhieomndeaaGreatDoor.Ed
namespace Go.Proofs.YtkgdhhieomndeaaGreatDoor.Sh
open Go.Sy Ed
open Int (ofNat)
theorem Aiv (e:E6):(Ay (Ai tab (AA Gl [] []) Tryz.f118 [eV e] [])).sem=(sel (ieq (e).kind 1) (sel (ieq (e).kind 1) (sel (ieq (e).kind 1) (sel (ieq (e).kind 1) (some ((bV true),[])) none) none) none) (sel (ieq (e).kind 1) (sel (ieq (e).kind 1) (sel (ieq (e).kind 1) (some ((bV true),[])) none) none) (sel (ieq (e).kind 1) (sel (ieq (e).kind 1) (some ((bV true),[])) none) (sel (ieq (e).kind 1) (some ((bV true),[])) (sel (ieq (e).kind 2) (sel (ieq (e).kind 2) (sel (ieq (e).kind 2) (sel (ieq (e).kind 2) (some ((bV true),[])) (some (A9,[]))) none) none) (sel (ieq (e).kind 2) (sel (ieq (e).kind 2) (sel (ieq (e).kind 2) (some ((bV true),[])) (some (A9,[]))) none) (sel (ieq (e).kind 2) (sel (ieq (e).kind 2) (some ((bV true),[])) (some (A9,[]))) (sel (ieq (e).kind 2) (some ((bV true),[])) (some ((bV (ieq (e).kind 3)),[])))))))))):=by kernel_rfl
theorem p91:Ax Tryz.prog Gl 118 (BW λe=>bV (BF e)):=by
 refine Ax.congr (AM A7 mixed Tryz.func118 (by kernel_rfl) (by kernel_rfl) (Γ:=AA Gl [] []) (AH Aq.nil _)) λvs r h=>?_;obtain ⟨e,rfl,rfl⟩:=Ci h;refine (Aiv e).trans ?_;rw [Pq];cases ieq e.kind 1 <;> cases ieq e.kind 2 <;> cases ieq e.kind 3 <;> rfl
noncomputable def AaS:AK:=(118,BW λe=>bV (BF e))::[]
theorem X9:Aq Tryz.prog Gl AaS:=.cons p91 .nil
theorem Ai1 (e:E6):(Ay (Ai tab (AA Gl AaS []) Tryz.f85 [eV e] [])).sem=(sel (BF e) (sel (BF e) (sel (BF e) (some ((bV (e).ext),[])) (some ((bV false),[]))) (sel (BF e) (some (A9,[])) (some ((bV false),[])))) (sel (BF e) none (sel (BF e) (some (A9,[])) (some ((bV false),[]))))):=by kernel_rfl
theorem p52:Ax Tryz.prog Gl 85 (BW λe=>bV (AB e)):=by
 refine Ax.congr (AM A7 mixed Tryz.func85 (by kernel_rfl) (by kernel_rfl) (Γ:=AA Gl AaS []) (AH X9 _)) λvs r h=>?_;obtain ⟨e,rfl,rfl⟩:=Ci h;refine (Ai1 e).trans ?_;unfold AB;cases BF e <;> rfl
theorem Ai0 (e:E6):(Ay (Ai tab (AA Gl AaS []) Tryz.f87 [eV e] [])).sem=(sel (A5 (BF e)) (sel (A5 (BF e)) (sel (A5 (BF e)) (sel (A5 (BF e)) (some ((bV (A5 (e).same)),[])) (some ((bV false),[]))) (sel (A5 (BF e)) (some (A9,[])) (some ((bV false),[])))) (sel (A5 (BF e)) none (sel (A5 (BF e)) (some (A9,[])) (some ((bV false),[]))))) (sel (A5 (BF e)) none (sel (A5 (BF e)) none (sel (A5 (BF e)) (some (A9,[])) (some ((bV false),[])))))):=by kernel_rfl
theorem p54:Ax Tryz.prog Gl 87 (BW λe=>bV (AN e)):=by
 refine Ax.congr (AM A7 mixed Tryz.func87 (by kernel_rfl) (by kernel_rfl) (Γ:=AA Gl AaS []) (AH X9 _)) λvs r h=>?_;obtain ⟨e,rfl,rfl⟩:=Ci h;refine (Ai0 e).trans ?_;unfold AN;cases BF e <;> rfl
noncomputable def Nq (n:Nat) (f:Nat->Int) (x:Int):Int:=match (List.range n).find? λi=>ieq x (f i) with
 | some i=>ofNat i
 | none=>-1
theorem QE {n:Nat} {f:Nat->Int} {x:Int} {i:Nat} (hi:i<n) (h:ieq x (f i)=true) (hb:∀ k,k<i->ieq x (f k)=false):Nq n f x=ofNat i:=by
 unfold Nq;have:(List.range n).find? (λi=>ieq x (f i))=some i:=by
  rw [List.find?_range_eq_some];exact ⟨h,by simpa using hi,λj hj=>by rw [hb j hj]; rfl⟩
 rw [this]
theorem UC {n:Nat} {f:Nat->Int} {x:Int} (h:∀ k,k<n->ieq x (f k)=false):Nq n f x = -1:=by
 unfold Nq;have:(List.range n).find? (λi=>ieq x (f i))=none:=by
  rw [List.find?_eq_none];intro k hk;rw [h k (by simpa using hk)];simp
 rw [this]
def OD (n:Nat) (f:Nat->Int) (x:Int):Lp:=⟨bmK 19 0 [0,1,4,7,8],0,bmK 19 0 [4],0,n+1⟩
def Rs (n:Nat) (f:Nat->Int) (x:Int) (b:Nat) (j:Nat->V):St:=⟨jsV 19 0 j [(0,.sl 1 n λk=>iV (f k)),(1,iV x),(4,iV 0),(7,nV n),(8,nV b)],[]⟩
def YF (n:Nat) (f:Nat->Int) (x:Int) (b:Nat):Ex×St:=(.rt,⟨jsV 19 0 Aa [(4,nV b)],[]⟩)
def YG (n:Nat) (f:Nat->Int) (x:Int) (b:Nat):Ex×St:=(.ex 0,⟨jsV 19 0 Aa [(4,iV 0)],[]⟩)
noncomputable def Ic (L:LT):St->T (Ex×St):=λst=>AD tab ⟨Am tb0,L,Gl⟩ (Au Tryz.f119 0) 0 st
section
variable (L:LT) (n:Nat) (f:Nat->Int) (x:Int) (b:Nat)  (j:Nat->V)
include L n f x b j
theorem Ami (h0:ilt (ofNat b) (ofNat n)=true) (h11:ile 0 (ofNat b)=true) (h1:ieq x (f b)=false):Al (Ic L) (OD n f x) (Rs n f x b j)=some (.nm,⟨jsV 19 0 Aa [(0,.sl 1 n (λk=>iV (f k))),(1,iV x),(4,iV 0),(7,nV n),(8,iV (wr .i64 (Ak (ofNat b) 1)))],[]⟩):=by
 exact Ac (ks:=[kn h0,kA (kn h11) (kn h0),kn h1]) (by kernel_rfl)
theorem Amh (h0:ilt (ofNat b) (ofNat n)=true) (h11:ile 0 (ofNat b)=true) (h1:ieq x (f b)=true):Al (Ic L) (OD n f x) (Rs n f x b j)=some (.rt,⟨jsV 19 0 Aa [(4,nV b)],[]⟩):=by
 exact Ac (ks:=[kn h0,kA (kn h11) (kn h0),kn h1]) (by kernel_rfl)
theorem Amj (h0:ilt (ofNat b) (ofNat n)=false):Al (Ic L) (OD n f x) (Rs n f x b j)=some ((.ex 0),⟨jsV 19 0 Aa [(4,iV 0)],[]⟩):=by
 exact Ac (ks:=[kn h0]) (by kernel_rfl)
end
def Akg (n:Nat) (f:Nat->Int) (x:Int) :Nat->V:=lkV A9 [(6,.sl 1 n (λk=>iV (f k)))]
theorem AkY (L:LT) (p0:PT) (n:Nat) (f:Nat->Int) (x:Int) (b:Nat)  (hp0:p0 (Ic (onP 0 p0 (YF n f x b) L)) (Rs n f x 0 (Akg n f x ))=true):(Ay (Ai tab ⟨Am tb0,onP 0 p0 (YF n f x b) L,Gl⟩ Tryz.f119 [.sl 1 n λk=>iV (f k),iV x] [])).sem=some ((nV b),[]):=by
 exact Ac (ks:=[kn hp0]) (by kernel_rfl)
theorem AkZ (L:LT) (p0:PT) (n:Nat) (f:Nat->Int) (x:Int)  (hp0:p0 (Ic (onP 0 p0 (YG n f x 0) L)) (Rs n f x 0 (Akg n f x ))=true):(Ay (Ai tab ⟨Am tb0,onP 0 p0 (YG n f x 0) L,Gl⟩ Tryz.f119 [.sl 1 n λk=>iV (f k),iV x] [])).sem=some ((iV (-1)),[]):=by
 exact Ac (ks:=[kn hp0]) (by kernel_rfl)
theorem AgL (L:LT) (n:Nat) (f:Nat->Int) (x:Int) (hn:n <= 4611686018427387904):∀ (e i:Nat) (j:Nat->V) (q:Nat),n=i+e->e<q->(∀ k,k<i->ieq x (f k)=false) ->
  ((A3 (Ic L) (OD n f x) q (Rs n f x i j)).sem=some (YG n f x 0)∧Nq n f x = -1) ∨ ∃ b,(A3 (Ic L) (OD n f x) q (Rs n f x i j)).sem=some (YF n f x b)∧Nq n f x=ofNat b
 | 0,i,j,q+1,h,_,hb=>by
  have:n=i:=by omega
  subst this;exact .inl ⟨Ae (Amj L n f x n j (Aw (Nat.le_refl _))),UC hb⟩
 | e+1,i,j,q+1,h,h2,hb=>by
  have hl:i<n:=by omega
  cases hp:ieq x (f i) with
  | true =>exact .inr ⟨i,Ae (Amh L n f x i j (ofNat_lt hl) (AX i) hp),QE hl hp hb⟩
  | false =>
   rw [Ae (Ami L n f x i j (ofNat_lt hl) (AX i) hp),A6,Ap hl hn];refine AgL L n f x hn e (i+1) Aa q (by omega) (by omega) λk hk=>?_;by_cases hki:k=i
   ·rw [hki]; exact hp
   ·exact hb k (by omega)
noncomputable def WJ:List V->AE
 | [v,.val (.int .i64 x)]=>apI v λn f=>.br (E9 n) (.leaf (iV (Nq n f x),[])) .fail
 | _=>.fail
theorem p92:Ax Tryz.prog Gl 119 WJ:=by
 refine Aj A7 mixed Tryz.func119 (by kernel_rfl) (by kernel_rfl) λvs v h' h=>?_;unfold WJ at h;split at h
 ·rename_i u x
  obtain ⟨n,f,ha,h1⟩:=H5 h;obtain ⟨h8,hq⟩:=Ad h1;have:=Ab hq;simp only [Prod.mk.injEq] at this;obtain ⟨rfl,rfl⟩:=this;have h8':n * 8 <= 140737488355328:=of_decide_eq_true h8;have hA:Bj [u,iV x] [EV n f,iV x]:=λS w cs hv=>by
   obtain ⟨c,l,rfl,q1,q2⟩:=hv;exact ⟨c,l,rfl,ha S w c q1,q2⟩
  have hx:=AH CS [(0,OD n f x)] (G:=Gl);have hL:=AQ [(0,OD n f x)];refine ⟨_,AA Gl tb0 [(0,OD n f x)],_,hA,rfl,hx.1,hx.2,?_,Av.refl _⟩;have h0:=λL j=>AgL L n f x (by omega) n 0 j (n+1) (by omega) (by omega) (λk hk=>absurd hk (Nat.not_lt_zero _));rcases h0 (Ba [(0,OD n f x)]) (Akg n f x) with ⟨_,h5⟩ | ⟨b,_,h5⟩
  ·have h6:∀ L j,(A3 (Ic L) (OD n f x) (n+1) (Rs n f x 0 j)).sem=some (YG n f x 0):=λL j=>by
    rcases h0 L j with ⟨h,_⟩ | ⟨b,_,h⟩
    ·exact h
    ·rw [h5] at h
     cases h
   rw [h5];exact AP (AI hL hL) _ (AkZ _ _ n f x (Az (h6 _ _)))
  ·have h6:∀ L j,(A3 (Ic L) (OD n f x) (n+1) (Rs n f x 0 j)).sem=some (YF n f x b):=λL j=>by
    rcases h0 L j with ⟨_,h⟩ | ⟨b',h,h'⟩
    ·rw [h5] at h
     cases h
    ·rw [h5] at h'
     cases h';exact h
   rw [h5];exact AP (AI hL hL) _ (AkY _ _ n f x b (Az (h6 _ _)))
 ·cases h
end Go.Proofs.YtkgdhhieomndeaaGreatDoor.Sh
namespace Go.Proofs.YtkgdhhieomndeaaGreatDoor.Sh
open Go.Sy Ed
inductive Begin (p:Nat->Bool) (n:Nat):Nat->Prop
 | none:(∀ k,k<n->p k=false)->Begin p n 0
 | last:0<n->p (n-1)=true->Begin p n 0
 | first {z:Nat}:0<z->z<n->p (z-1)=true->(∀ k,k<z-1->p k=false)->p (n-1)=false->Begin p n z
theorem Hw {p:Nat->Bool}:∀ {k:Nat},(∀ i,i<k->p i=false)->An p k=0
 | 0,_=>rfl
 | k+1,h=>by rw [Cc (h k (Nat.lt_succ_self k)),Hw λi hi=>h i (by omega)]
theorem Mx (p:Nat->Bool) (k:Nat):An p (k+1)=An p k ∨ An p (k+1)=An p k+1:=by
 cases h:p k with
 | true=>exact .inr (B7 h)
 | false=>exact .inl (Cc h)
def FH (p:Nat->Bool) (n z t:Nat):Bool:=p ((z+t) % n)
theorem Hv {p:Nat->Bool} {n z:Nat}:∀ {t:Nat},z+t <= n->An (FH p n z) t+An p z=An p (z+t)
 | 0,_=>by simp [An]
 | t+1,h=>by
  have ih:=Hv (p:=p) (n:=n) (z:=z) (t:=t) (by omega);have he:FH p n z t=p (z+t):=by unfold FH; rw [Nat.mod_eq_of_lt (by omega)]
  rw [show z+(t+1)=z+t+1 by omega];cases hp:p (z+t) with
  | true=>rw [B7 (he.trans hp),B7 hp]; omega
  | false=>rw [Cc (he.trans hp),Cc hp]; exact ih
theorem QQ {p:Nat->Bool} {n z:Nat} (hz:z <= n):∀ {i:Nat},i <= z->An (FH p n z) (n-z+i)+An p z=An p n+An p i
 | 0,_=>by
  have:=Hv (p:=p) (n:=n) (z:=z) (t:=n-z) (by omega);rw [show z+(n-z)=n by omega] at this;simpa [An] using this
 | i+1,h=>by
  have ih:=QQ (p:=p) (n:=n) (z:=z) hz (i:=i) (by omega);have he:FH p n z (n-z+i)=p i:=by
   unfold FH;rw [show z+(n-z+i)=i+n by omega,Nat.add_mod_right,Nat.mod_eq_of_lt (by omega)]
  rw [show n-z+(i+1)=n-z+i+1 by omega];cases hp:p i with
  | true=>rw [B7 (he.trans hp),B7 hp]; omega
  | false=>rw [Cc (he.trans hp),Cc hp]; exact ih
def posN (n z i:Nat):Nat:=(i+(n-z)) % n
def AZ (p:Nat->Bool) (n k:Nat):Nat:=if An p k=An p n then 0 else An p k
theorem Ey {p:Nat->Bool} {n k:Nat} (h:k<n):AG p n k=Int.ofNat (AZ p n k):=by
 unfold AG AZ;rw [show decide (k<n)=true by simpa using h];simp only [cond_true];by_cases he:An p k=An p n
 ·simp [he]
 ·simp [he]
def snN (p:Nat->Bool) (n z v:Nat):Nat:=if z=0 then v else if v=0 then An p n-1 else v-1
theorem AeZ {p:Nat->Bool} {n z:Nat} (hb:Begin p n z) {i:Nat} (hi:i<n):An (FH p n z) (posN n z i)=snN p n z (AZ p n i):=by
 have hmi:=Bg p (show i <= n by omega);cases hb with
 | none h0 =>
  have h1:An p n=0:=Hw h0;have h2:posN n 0 i=i:=by unfold posN; rw [Nat.sub_zero,Nat.add_mod_right,Nat.mod_eq_of_lt hi]
  have h3:=Hv (p:=p) (n:=n) (z:=0) (t:=i) (by omega);rw [Nat.zero_add] at h3;rw [h2];unfold snN AZ;rw [if_pos rfl,h1];simp [An] at h3;rw [h3];split <;> omega
 | last hn h0 =>
  have h2:posN n 0 i=i:=by unfold posN; rw [Nat.sub_zero,Nat.add_mod_right,Nat.mod_eq_of_lt hi]
  have h3:=Hv (p:=p) (n:=n) (z:=0) (t:=i) (by omega);rw [Nat.zero_add] at h3;have h4:An p n=An p (n-1)+1:=by
   have:=B7 h0;rwa [show n-1+1=n by omega] at this
  have h5:=Bg p (show i <= n-1 by omega);rw [h2];unfold snN AZ;rw [if_pos rfl];simp [An] at h3;rw [h3,if_neg (by omega)]
 | first hz hzn h0 h1 h2 =>
  have c0:An p (z-1)=0:=Hw h1;have c1:An p z=1:=by
   have:=B7 h0;rwa [show z-1+1=z by omega,c0] at this
  have hK:=Bg p (show z <= n by omega);unfold snN AZ;rw [if_neg (by omega)];rcases Nat.lt_or_ge i z with hc | hc
  ·have e1:posN n z i=n-z+i:=by unfold posN; rw [Nat.mod_eq_of_lt (by omega)]; omega
   have e2:=QQ (p:=p) (n:=n) (z:=z) (by omega) (i:=i) (by omega);have e3:An p i=0:=Hw λk hk=>h1 k (by omega);have e4:(if An p i=An p n then 0 else An p i)=0:=by split <;> omega
   rw [e1,if_pos e4];omega
  ·have e1:posN n z i=i-z:=by unfold posN; rw [show i+(n-z)=i-z+n by omega,Nat.add_mod_right,Nat.mod_eq_of_lt (by omega)]
   have e2:=Hv (p:=p) (n:=n) (z:=z) (t:=i-z) (by omega);rw [show z+(i-z)=i by omega] at e2;have e3:=Bg p hc;rw [e1];by_cases he:An p i=An p n
   ·rw [if_pos he,if_pos rfl]; omega
   ·rw [if_neg he,if_neg (by omega:¬ An p i=0)]; omega
theorem Abg {p:Nat->Bool} {n z u v:Nat} (hu:u <= v) (hv:v=0 ∨ v<An p n) (h:snN p n z u=snN p n z v):u=v:=by
 unfold snN at h;split at h
 ·exact h
 ·split at h <;> split at h <;> omega
def rN (p:Nat->Bool) (n:Nat):Nat->Nat
 | 0=>0
 | b+1=>if AZ p n b<rN p n b then rN p n b else rN p n b+1
theorem Ox {p:Nat->Bool} {n k:Nat} (h:k <= n):AZ p n k=0 ∨ AZ p n k<An p n:=by
 have:=Bg p h;unfold AZ;split
 ·exact .inl rfl
 ·exact .inr (by omega)
theorem AbI (p:Nat->Bool) (n:Nat):AZ p n 0=0:=by
 have h:An p 0=0:=rfl;unfold AZ;split
 ·rfl
 ·exact h
theorem AbE (p:Nat->Bool) (n:Nat):∀ b,b<n->rN p n (b+1)=if An p b=An p n then max (An p n) 1 else An p b+1
 | 0,h=>by
  have h1:rN p n (0+1)=1:=by
   rw [rN,AbI];simp [rN]
  have h2:An p 0=0:=rfl;rw [h1,h2];split <;> omega
 | b+1,h=>by
  have ih:=AbE p n b (by omega);have h1:=Bg p (show b+1 <= n by omega);have h2:=Bg p (show b <= n by omega);have h3:=Bg p (show b <= b+1 by omega);have h4:=Mx p b;rw [rN,ih];unfold AZ;by_cases e1:An p (b+1)=An p n
  ·rw [if_pos e1,if_pos e1]
   by_cases e2:An p b=An p n
   ·rw [if_pos e2,if_pos (by omega)]
   ·rw [if_neg e2,if_pos (by omega)]; omega
  ·rw [if_neg e1,if_neg e1]
   have e2:¬ An p b=An p n:=by omega
   rw [if_neg e2];split <;> omega
theorem N2 (p:Nat->Bool) (n:Nat):∀ b,b<n->AZ p n b <= rN p n b
 | 0,h=>by
  rw [AbI];exact Nat.zero_le _
 | b+1,h=>by
  rw [AbE p n b (by omega)];have h1:=Bg p (show b+1 <= n by omega);have h4:=Mx p b;have h3:=Bg p (show b <= b+1 by omega);unfold AZ;split
  ·omega
  ·split <;> omega
theorem Ua (p:Nat->Bool) (n:Nat):∀ b,rN p n b <= b
 | 0=>Nat.le_refl _
 | b+1=>by
  have:=Ua p n b;simp only [rN];split <;> omega
theorem Ahe (p:Nat->Bool) (n:Nat):∀ b,b <= n->∀ v,v<rN p n b->v=0 ∨ v<An p n
 | 0,_,v,h=>by simp [rN] at h
 | b+1,hb,v,h=>by
  have ih:=Ahe p n b (by omega) v;simp only [rN] at h;split at h
  ·exact ih h
  ·rename_i h2
   have h3:=N2 p n b (by omega);by_cases hv:v<rN p n b
   ·exact ih hv
   ·have:v=AZ p n b:=by omega
    rw [this];exact Ox (by omega)
end Go.Proofs.YtkgdhhieomndeaaGreatDoor.Sh
