/-
  The document's parts, threads, locations: the part of each edge. No conditions.
-/
import Derived.Test.YtkgdhhieomndeaaGreatDoorCyO
namespace Go.Proofs.YtkgdhhieomndeaaGreatDoor.Ed
open Go.Sy
open Int (ofNat)
def Qf (n:Nat) (p:Nat->Bool):Lp:=⟨bmK 57 0 [0,3,4,5],2,bmK 57 0 [0,3,4],2,n+1⟩
def SM (n:Nat) (p:Nat->Bool) (s:Int) (i:Nat) (h:Nat->Int) (j:Nat->V):St:=⟨jsV 57 0 j [(0,.sl 1 n (λk=>bV (p k))),(3,.ref 1),(4,iV s),(5,nV i)],[.row 3 1 0 Aa,.row 3 1 i (λk=>iV (h k))]⟩
def FJ (n:Nat) (p:Nat->Bool) (s:Int) (i:Nat) (h:Nat->Int):Ex×St:=(.ex 0,⟨jsV 57 0 Aa [(0,.sl 1 n (λk=>bV (p k))),(3,.ref 1),(4,iV s)],[.row 3 1 0 Aa,.row 3 1 i (λk=>iV (h k))]⟩)
noncomputable def E5 (L:LT):St->T (Ex×St):=λst=>A7 tab ⟨Ap tb0,L,Gl⟩ (Ar Tryz.f109 0) 0 st
section
variable (L:LT) (n:Nat) (p:Nat->Bool) (s:Int) (i:Nat) (h:Nat->Int)  (j:Nat->V)
include L n p s i h j
theorem Ai8 (h0:ilt (ofNat i) (ofNat n)=false):Ah (E5 L) (Qf n p) (SM n p s i h j)=some ((.ex 0),⟨jsV 57 0 Aa [(0,.sl 1 n (λk=>bV (p k))),(3,.ref 1),(4,iV s)],[.row 3 1 0 Aa,.row 3 1 i (λk=>iV (h k))]⟩):=by
 exact Ab (ks:=[kn h0]) (by kernel_rfl)
theorem Ai6 (h0:ilt (ofNat i) (ofNat n)=true) (h2:Ba i 1 8=true) (h1:Al (ile 0 (ofNat i)) (ilt (ofNat i) (ofNat n))=true) (h3:p i=true):Ah (E5 L) (Qf n p) (SM n p s i h j)=some (.nm,⟨jsV 57 0 Aa [(0,.sl 1 n (λk=>bV (p k))),(3,.ref 1),(4,iV (wr .i64 (Af s 1))),(5,iV (wr .i64 (Af (ofNat i) 1)))],[.row 3 1 0 Aa,.row 3 1 (AS i 1) (As i (λk=>iV (h k)) (iV s))]⟩):=by
 exact Ab (ks:=[kn h0,kn h2,kn h1,kn h3]) (by kernel_rfl)
theorem Ai7 (h0:ilt (ofNat i) (ofNat n)=true) (h2:Ba i 1 8=true) (h1:Al (ile 0 (ofNat i)) (ilt (ofNat i) (ofNat n))=true) (h3:p i=false):Ah (E5 L) (Qf n p) (SM n p s i h j)=some (.nm,⟨jsV 57 0 Aa [(0,.sl 1 n (λk=>bV (p k))),(3,.ref 1),(4,iV s),(5,iV (wr .i64 (Af (ofNat i) 1)))],[.row 3 1 0 Aa,.row 3 1 (AS i 1) (As i (λk=>iV (h k)) (iV s))]⟩):=by
 exact Ab (ks:=[kn h0,kn h2,kn h1,kn h3]) (by kernel_rfl)
end
def Iq (n:Nat) (p:Nat->Bool) :St:=⟨jsV 57 0 (λ_=>A9) [(0,.sl 1 n (λk=>bV (p k))),(2,.ref 0),(3,.ref 1),(4,iV 0),(5,iV 0)],[.row 3 1 0 Aa,.row 3 1 0 Aa]⟩
def Ky (n:Nat) (p:Nat->Bool):Lp:=⟨bmK 57 0 [0,3,7],2,bmK 57 0 [3],2,n+1⟩
def Kk (n:Nat) (p:Nat->Bool) (d:Int) (g:Nat->Int) (j:Nat->V):St:=⟨jsV 57 0 j [(0,.sl 1 n (λk=>bV (p k))),(3,.ref 1),(7,iV d)],[.row 3 1 0 Aa,.row 3 1 n (λk=>iV (g k))]⟩
def KQ (n:Nat) (p:Nat->Bool) (d:Int) (g:Nat->Int):Ex×St:=(.ex 2,⟨jsV 57 0 Aa [(3,.ref 1)],[.row 3 1 0 Aa,.row 3 1 n (λk=>iV (g k))]⟩)
noncomputable def Hd (L:LT):St->T (Ex×St):=λst=>A7 tab ⟨Ap tb0,L,Gl⟩ (Ar Tryz.f109 2) 2 st
section
variable (L:LT) (n:Nat) (p:Nat->Bool) (d:Int) (g:Nat->Int)  (j:Nat->V)
include L n p d g j
theorem Aih (h0:ile 0 d=false):Ah (Hd L) (Ky n p) (Kk n p d g j)=some ((.ex 2),⟨jsV 57 0 Aa [(3,.ref 1)],[.row 3 1 0 Aa,.row 3 1 n (λk=>iV (g k))]⟩):=by
 exact Ab (ks:=[kn h0,kn h0,kn h0,kn h0,kn h0,kn h0,kF]) (by kernel_rfl)
theorem Aig (h0:ile 0 d=true) (h1:Al (ile 0 d) (ilt d (ofNat n))=true) (h3:p (toN d)=true):Ah (Hd L) (Ky n p) (Kk n p d g j)=some ((.ex 2),⟨jsV 57 0 Aa [(3,.ref 1)],[.row 3 1 0 Aa,.row 3 1 n (λk=>iV (g k))]⟩):=by
 exact Ab (ks:=[kn h0,kn h0,kn h0,kn h1,kn h0,kn h0,kn h0,kN (kn h3)]) (by kernel_rfl)
theorem Aif (h0:ile 0 d=true) (h1:Al (ile 0 d) (ilt d (ofNat n))=true) (h3:p (toN d)=false) (h2:nlt (toN d) n=true):Ah (Hd L) (Ky n p) (Kk n p d g j)=some (.nm,⟨jsV 57 0 Aa [(0,.sl 1 n (λk=>bV (p k))),(3,.ref 1),(7,iV (wr .i64 (A5 d 1)))],[.row 3 1 0 Aa,.row 3 1 n (BT (λk=>iV (g k)) (toN d) (iV 0))]⟩):=by
 exact Ab (ks:=[kn h0,kn h0,kn h0,kn h1,kn h0,kn h0,kn h0,kN (kn h3),kn h1,kn h2]) (by kernel_rfl)
end
def AeZ (n:Nat) (p:Nat->Bool) (s:Int) (g:Nat->Int):Nat->V:=lkU 144110790046121766 [(4,iV s),(6,nV n),(24,.sl 1 n (λk=>bV (p k))),(25,nV n),(26,nV n),(27,bV (ilt 0 (ofNat n))),(28,bV (ilt 0 (ofNat n))),(29,iV s),(30,bV (ilt 0 s)),(31,bV (ilt 0 s)),(32,bV (ilt 0 s)),(33,.sl 1 n (λk=>bV (p k))),(34,nV n),(35,iV (wr .i64 (A5 (ofNat n) 1))),(36,.pp (bV (p (toN (wr .i64 (A5 (ofNat n) 1)))))),(37,bV (p (toN (wr .i64 (A5 (ofNat n) 1))))),(38,bV (A6 (p (toN (wr .i64 (A5 (ofNat n) 1)))))),(39,bV (A6 (p (toN (wr .i64 (A5 (ofNat n) 1)))))),(40,nV n),(41,iV (wr .i64 (A5 (ofNat n) 1)))]
section
variable (L:LT) (p0:PT) (n:Nat) (p:Nat->Bool) (s:Int) (g:Nat->Int)
include L p0 n p s g
theorem Ahh (h0:ilt 0 (ofNat n)=false) (hp0:p0 (E5 (onP 0 p0 (FJ n p s n g) L)) (Iq n p)=true):(Az (Ak tab ⟨Ap tb0,onP 0 p0 (FJ n p s n g) L,Gl⟩ Tryz.f109 [.sl 1 n (λk=>bV (p k))] [])).sem=some ((.ref 0),[.row 3 1 n (λk=>iV (g k))]):=by
 exact Ab (ks:=[kn hp0,kn h0,kn h0,kn h0,kF,kF,kF,kF,kF,kF,kF,kF]) (by kernel_rfl)
theorem Ahg (h0:ilt 0 (ofNat n)=true) (h1:ilt 0 s=false) (hp0:p0 (E5 (onP 0 p0 (FJ n p s n g) L)) (Iq n p)=true):(Az (Ak tab ⟨Ap tb0,onP 0 p0 (FJ n p s n g) L,Gl⟩ Tryz.f109 [.sl 1 n (λk=>bV (p k))] [])).sem=some ((.ref 0),[.row 3 1 n (λk=>iV (g k))]):=by
 exact Ab (ks:=[kn hp0,kn h0,kn h0,kn h0,kn h1,kn h1,kn h1,kn h1,kn h1,kn h1,kn h1,kF]) (by kernel_rfl)
theorem Ahf (h0:ilt 0 (ofNat n)=true) (h1:ilt 0 s=true) (h2:Al (ile 0 (wr .i64 (A5 (ofNat n) 1))) (ilt (wr .i64 (A5 (ofNat n) 1)) (ofNat n))=true) (h3:p (toN (wr .i64 (A5 (ofNat n) 1)))=true) (hp0:p0 (E5 (onP 0 p0 (FJ n p s n g) L)) (Iq n p)=true):(Az (Ak tab ⟨Ap tb0,onP 0 p0 (FJ n p s n g) L,Gl⟩ Tryz.f109 [.sl 1 n (λk=>bV (p k))] [])).sem=some ((.ref 0),[.row 3 1 n (λk=>iV (g k))]):=by
 exact Ab (ks:=[kn hp0,kn h0,kn h0,kn h0,kn h1,kn h1,kn h1,kn h1,kn h2,kn h1,kn h1,kn h1,kN (kn h3)]) (by kernel_rfl)
end
theorem Ahe (L:LT) (p0:PT) (p2:PT) (n:Nat) (p:Nat->Bool) (s:Int) (g:Nat->Int) (d:Int) (u:Nat->Int) (h0:ilt 0 (ofNat n)=true) (h1:ilt 0 s=true) (h2:Al (ile 0 (wr .i64 (A5 (ofNat n) 1))) (ilt (wr .i64 (A5 (ofNat n) 1)) (ofNat n))=true) (h3:p (toN (wr .i64 (A5 (ofNat n) 1)))=false) (hp0:p0 (E5 (onP 0 p0 (FJ n p s n g) (onP 2 p2 (KQ n p d u) L))) (Iq n p)=true) (hp2:p2 (Hd (onP 0 p0 (FJ n p s n g) (onP 2 p2 (KQ n p d u) L))) (Kk n p (wr .i64 (A5 (ofNat n) 1)) g (AeZ n p s g))=true):(Az (Ak tab ⟨Ap tb0,onP 0 p0 (FJ n p s n g) (onP 2 p2 (KQ n p d u) L),Gl⟩ Tryz.f109 [.sl 1 n (λk=>bV (p k))] [])).sem=some ((.ref 0),[.row 3 1 n (λk=>iV (u k))]):=by
 exact Ab (ks:=[kn hp0,kn h0,kn h0,kn h0,kn h1,kn h1,kn h1,kn h1,kn h2,kn h1,kn h1,kn h1,kN (kn h3),kn hp2]) (by kernel_rfl)
theorem Tj (p:Nat->Bool) (i:Nat):As i (λk=>iV (CM p i k)) (iV (ofNat (An p i)))=λk=>iV (CM p (i+1) k):=by
 funext k;rw [Bi,show Nat.beq k i=decide (k=i) by rw [Bool.eq_iff_iff]; simp];unfold CM;by_cases h:k=i
 ·subst h; simp
 ·by_cases h2:k<i
  ·have:k<i+1:=by omega
   simp [h,h2,this]
  ·have:¬ k<i+1:=by omega
   simp [h,h2,this]
theorem Bx {p:Nat->Bool} {i:Nat} (h:p i=true):An p (i+1)=An p i+1:=by rw [An,h]
theorem BU {p:Nat->Bool} {i:Nat} (h:p i=false):An p (i+1)=An p i:=by rw [An,h]
theorem Vn (L:LT) (n:Nat) (p:Nat->Bool) (h8:n * 8 <= 140737488355328):∀ (e i:Nat) (j:Nat->V) (q:Nat),n=i+e->e<q ->
  (A3 (E5 L) (Qf n p) q (SM n p (ofNat (An p i)) i (CM p i) j)).sem=some (FJ n p (ofNat (An p n)) n (CM p n))
 | 0,i,j,q+1,h,_=>by
  have:n=i:=by omega
  subst this;exact Ae (Ai8 L n p _ _ _ j (A1 (Nat.le_refl _)))
 | e+1,i,j,q+1,h,h2=>by
  have hc:=Be p i;have hl:i<n:=by omega
  have ha:Ba i 1 8=true:=BS (by omega);cases hp:p i with
  | true =>rw [Ae (Ai6 L n p (ofNat (An p i)) i (CM p i) j (ofNat_lt hl) ha (Ao hl) hp),Ay,Aq hl (by omega),Aq (show An p i<n by omega) (by omega),<- Bx hp,Tj p i];exact Vn L n p h8 e (i+1) Aa q (by omega) (by omega)
  | false =>rw [Ae (Ai7 L n p (ofNat (An p i)) i (CM p i) j (ofNat_lt hl) ha (Ao hl) hp),Ay,Aq hl (by omega),Tj p i,<- BU hp];exact Vn L n p h8 e (i+1) Aa q (by omega) (by omega)
theorem WO (L:LT) (n:Nat) (p:Nat->Bool) (hn:n <= 4611686018427387904) (hs:0<An p n):∀ (D:Nat) (j:Nat->V) (q:Nat),D <= n->D<q->(∀ k,D <= k->k<n->An p k=An p n) ->
  (A3 (Hd L) (Ky n p) q (Kk n p (dn D) (CM p D) j)).sem=some (KQ n p 0 (AG p n))
 | 0,j,q+1,h,_,hb=>by
  rw [<- Hm p n 0 h (λk hk=>absurd hk (Nat.not_lt_zero _)) hb];exact Ae (Aih L n p (dn 0) (CM p 0) j rfl)
 | D+1,j,q+1,h,h2,hb=>by
  have hD:D<n:=by omega
  have hk:nlt D n=true:=by simpa [nlt] using hD
  cases hp:p D with
  | false =>
   have he:An p D=An p n:=by
    rw [<- BU hp];by_cases h5:D+1=n
    ·rw [h5]
    ·exact hb (D+1) (Nat.le_refl _) (by omega)
   rw [show dn (D+1)=ofNat D from rfl,Ae (Aif L n p (ofNat D) (CM p (D+1)) j (AF D) (Ao hD) hp hk),Ay,Q1 (show D <= n by omega) hn,Cn,show toN (ofNat D)=D from rfl,Lv];exact WO L n p hn hs D Aa q (by omega) (by omega) λk h3 h4=>by
    by_cases h5:k=D
    ·subst h5; exact he
    ·exact hb k (by omega) h4
  | true =>
   have h6:An p D<An p n:=by
    have:=Bb p (show D+1 <= n by omega);rw [Bx hp] at this;omega
   rw [<- Hm p n (D+1) h (λk hk=>by have:=Bb p (show k <= D by omega); omega) hb];rw [show dn (D+1)=ofNat D from rfl];exact Ae (Aig L n p (ofNat D) (CM p (D+1)) j (AF D) (Ao hD) hp)
def Sx:List (Nat×List (Nat×V)):=[(0,[(1,iV 0)])]
def Oh (n:Nat) (p:Nat->Bool):List (Nat×Lp):=[(0,Qf n p),(2,Ky n p)]
def L6:List V->AR
 | [v]=>apB v λn p=>.br (Ea n) (.leaf (.ref 0,[.row 3 1 n λk=>iV (AG p n k)])) .fail
 | _=>.fail
theorem Afj (n:Nat) (p:Nat->Bool):CE (Iq n p) [(1,iV 0)]=SM n p 0 0 (λ_=>0) (λi=>nth (Iq n p).t i):=by kernel_rfl
theorem Adn (n:Nat) (p:Nat->Bool) (h8:Ea n=true) :
  (Az (Ak tab (cxZ Gl tb0 Sx (Oh n p)) Tryz.f109 [Wv n p] [])).sem=some (.ref 0,[.row 3 1 n λk=>iV (AG p n k)]):=by
 have h8':n * 8 <= 140737488355328:=of_decide_eq_true h8;have hn:n <= 4611686018427387904:=by omega
 have hL:=DO Sx (Oh n p);have h0:∀ L,(Cb Sx (Oh n p) 0 (E5 L) (Iq n p)).sem=some (FJ n p (ofNat (An p n)) n (CM p n)):=λL=>by
  show (A3 (E5 L) (Qf n p) (n+1) (CE (Iq n p) [(1,iV 0)])).sem=_;rw [Afj,<- Vp p];exact Vn L n p h8' n 0 _ (n+1) (by omega) (by omega)
 cases n with
 | zero =>rw [<- Rs p 0 rfl];exact AH (AA hL hL) _ (Ahh _ _ 0 p _ _ rfl (Au (h0 _)))
 | succ m =>
  have c0:ilt 0 (ofNat (m+1))=true:=by rw [show (0:Int)=ofNat 0 from rfl,BV]; simp
  have e1:wr .i64 (A5 (ofNat (m+1)) 1)=ofNat m:=Q1 (Nat.le_refl _) hn;have e2:toN (ofNat m)=m:=rfl;cases hs:ilt 0 (ofNat (An p (m+1))) with
  | false =>
   have hz:An p (m+1)=0:=by simpa [ilt] using hs
   have hw:=AH (AA hL hL) _ (Ahg _ _ (m+1) p _ _ c0 hs (Au (h0 _)));rw [<- Rs p (m+1) hz];exact hw
  | true =>
   have hz:0<An p (m+1):=by simpa [ilt] using hs
   have hb:Al (ile 0 (wr .i64 (A5 (ofNat (m+1)) 1))) (ilt (wr .i64 (A5 (ofNat (m+1)) 1)) (ofNat (m+1)))=true:=by rw [e1]; exact Ao (Nat.lt_succ_self m)
   cases hp:p m with
   | true =>have hw:=AH (AA hL hL) _ (Ahf _ _ (m+1) p _ _ c0 hs hb (by rw [e1,e2]; exact hp) (Au (h0 _)));rw [<- Hm p (m+1) (m+1) (Nat.le_refl _) (λk hk=>by have:=Bb p (show k <= m by omega); rw [Bx hp]; omega) (λk h1 h2=>by omega)];exact hw
   | false =>have h2:=λL j=>WO L (m+1) p hn hz (m+1) j (m+2) (Nat.le_refl _) (by omega) (λk h1 h2=>by omega);rw [show dn (m+1)=ofNat m from rfl,<- e1] at h2;exact AH (AA (AA hL hL) hL) _ (Ahe _ _ _ (m+1) p _ (CM p (m+1)) 0 (AG p (m+1)) c0 hs hb (by rw [e1,e2]; exact hp) (Au (h0 _)) (Au (h2 _ _)))
theorem Ao2:Ax Tryz.prog Gl 109 L6:=by
 refine Am A8 mixed Tryz.func109 (by kernel_rfl) (by kernel_rfl) λvs v h' h=>?_;unfold L6 at h;split at h
 ·rename_i u
  obtain ⟨n,p,ha,h1⟩:=AcU h;obtain ⟨h8,hq⟩:=Ad h1;have:=Ac hq;simp only [Prod.mk.injEq] at this;obtain ⟨rfl,rfl⟩:=this;have hA:Bf [u] [Wv n p]:=λS w cs hv=>by
   obtain ⟨c,l,rfl,q1,q2⟩:=hv;exact ⟨c,l,rfl,ha S w c q1,q2⟩
  have hx:=JI C8 Sx (Oh n p);exact ⟨_,cxZ Gl tb0 Sx (Oh n p),_,hA,rfl,hx.1,hx.2,Adn n p h8,Aw.refl _⟩
 ·cases h
theorem ED {n:Nat}:BC [.row 3 1 n (λ_=>iV 0)]=true:=by
 simp [BC,MO,iV]
noncomputable def UH:AP:=(78,BI λe=>bV (AK e))::(79,BI λe=>bV (AJ e))::(109,L6)::[]
theorem WB:Av Tryz.prog Gl UH:=.cons p60 <| .cons p61 <| .cons Ao2 .nil
def Jg (p:Nat->Bool) (i k:Nat):Bool:=decide (k<i) && p k
theorem Aa9 (p:Nat->Bool):Jg p 0=λ_=>false:=by
 funext k;simp [Jg]
theorem PU (p:Nat->Bool) (i:Nat):As i (λk=>bV (Jg p i k)) (bV (p i))=λk=>bV (Jg p (i+1) k):=by
 funext k;rw [Bi,show Nat.beq k i=decide (k=i) by rw [Bool.eq_iff_iff]; simp];unfold Jg;by_cases h:k=i
 ·subst h; simp
 ·by_cases h2:k<i
  ·have:k<i+1:=by omega
   simp [h,h2,this]
  ·have:¬ k<i+1:=by omega
   simp [h,h2,this]
theorem Dl {p q:Nat->Bool}:∀ k,(∀ i,i<k->q i=p i)->An q k=An p k
 | 0,_=>rfl
 | k+1,h=>by
  rw [An,An,h k (Nat.lt_succ_self k),Dl k λi hi=>h i (by omega)]
theorem NV (p:Nat->Bool) (n:Nat):AG (Jg p n) n=AG p n:=by
 have hq:∀ i,i<n->Jg p n i=p i:=λi hi=>by simp [Jg,hi]
 funext k;unfold AG;by_cases h:k<n
 ·rw [Dl k λi hi=>hq i (by omega),Dl n hq]
 ·simp [h]
theorem JE {n:Nat} (h:BF n=true):n * 8 <= 140737488355328:=of_decide_eq_true (FG h)
def Tv (n:Nat) (f:Nat->E6):Lp:=⟨bmK 21 0 [0,3,4],2,bmK 21 0 [3],2,n+1⟩
def AdJ (n:Nat) (f:Nat->E6) (i:Nat) (h:Nat->Bool) (j:Nat->V):St:=⟨jsV 21 0 j [(0,.sl 6 n (λi=>eV (f i))),(3,.ref 1),(4,nV i)],[.row 3 1 0 Aa,.row 4 1 i (λk=>bV (h k))]⟩
def XH (n:Nat) (f:Nat->E6) (i:Nat) (h:Nat->Bool):Ex×St:=(.ex 0,⟨jsV 21 0 Aa [(3,.ref 1)],[.row 3 1 0 Aa,.row 4 1 i (λk=>bV (h k))]⟩)
noncomputable def Me (L:LT):St->T (Ex×St):=λst=>A7 tab ⟨Ap UH,L,Gl⟩ (Ar Tryz.f80 0) 0 st
section
variable (L:LT) (n:Nat) (f:Nat->E6) (i:Nat) (h:Nat->Bool)  (j:Nat->V)
include L n f i h j
theorem AlL (h0:ilt (ofNat i) (ofNat n)=false):Ah (Me L) (Tv n f) (AdJ n f i h j)=some ((.ex 0),⟨jsV 21 0 Aa [(3,.ref 1)],[.row 3 1 0 Aa,.row 4 1 i (λk=>bV (h k))]⟩):=by
 exact Ab (ks:=[kn h0]) (by kernel_rfl)
theorem AlK (h0:ilt (ofNat i) (ofNat n)=true) (h1:Al (ile 0 (ofNat i)) (ilt (ofNat i) (ofNat n))=true) (h2:Ba i 1 1=true):Ah (Me L) (Tv n f) (AdJ n f i h j)=some (.nm,⟨jsV 21 0 Aa [(0,.sl 6 n (λi=>eV (f i))),(3,.ref 1),(4,iV (wr .i64 (Af (ofNat i) 1)))],[.row 3 1 0 Aa,.row 4 1 (AS i 1) (As i (λk=>bV (h k)) (bV (AK (f i))))]⟩):=by
 exact Ab (ks:=[kn h0,kn h1,kn h2]) (by kernel_rfl)
end
def Ua (n:Nat) (f:Nat->E6) :St:=⟨jsV 21 0 (λ_=>A9) [(0,.sl 6 n (λi=>eV (f i))),(2,.ref 0),(3,.ref 1),(4,iV 0)],[.row 3 1 0 Aa,.row 4 1 0 Aa]⟩
theorem Ant (L:LT) (p0:PT) (n:Nat) (f:Nat->E6) (q:Nat->Bool) (h0:Ea n=true) (h10:BC [.row 3 1 n (λ_=>iV 0)]=true) (hp0:p0 (Me (onP 0 p0 (XH n f n q) L)) (Ua n f)=true):(Az (Ak tab ⟨Ap UH,onP 0 p0 (XH n f n q) L,Gl⟩ Tryz.f80 [AQ n f] [])).sem=some ((.ref 0),[.row 3 1 n (λk=>iV (AG q n k))]):=by
 exact Ab (ks:=[kn hp0,kL n,kn h0,kn h10]) (by kernel_rfl)
theorem AfK (L:LT) (n:Nat) (f:Nat->E6) (h8:n * 8 <= 140737488355328):∀ (e i:Nat) (j:Nat->V) (q:Nat),n=i+e->e<q ->
  (A3 (Me L) (Tv n f) q (AdJ n f i (Jg (λk=>AK (f k)) i) j)).sem=some (XH n f n (Jg (λk=>AK (f k)) n))
 | 0,i,j,q+1,h,_=>by
  have:n=i:=by omega
  subst this;exact Ae (AlL L n f _ _ j (A1 (Nat.le_refl _)))
 | e+1,i,j,q+1,h,h2=>by
  have hl:i<n:=by omega
  have ha:Ba i 1 1=true:=BS (by omega);rw [Ae (AlK L n f i (Jg (λk=>AK (f k)) i) j (ofNat_lt hl) (Ao hl) ha),Ay,Aq hl (by omega)];have:=PU (λk=>AK (f k)) i;rw [this];exact AfK L n f h8 e (i+1) Aa q (by omega) (by omega)
def Adf:List (Nat×List (Nat×V)):=[(0,[(1,bV false)])]
theorem Ajr (n:Nat) (f:Nat->E6):CE (Ua n f) [(1,bV false)]=AdJ n f 0 (λ_=>false) (λi=>nth (Ua n f).t i):=by kernel_rfl
def Ru:List V->AR:=FT λn f=>.br (BF n) (.leaf (.ref 0,[.row 3 1 n λk=>iV (AG (λk=>AK (f k)) n k)])) .fail
theorem p94:Ax Tryz.prog Gl 80 Ru:=by
 refine Am A8 mixed Tryz.func80 (by kernel_rfl) (by kernel_rfl) λvs v h' h=>?_;obtain ⟨n,f,ha,h1⟩:=Ct h;obtain ⟨hn,hq⟩:=Ad h1;have:=Ac hq;simp only [Prod.mk.injEq] at this;obtain ⟨rfl,rfl⟩:=this;have hx:=JI WB Adf [(0,Tv n f)];have hL:=DO Adf [(0,Tv n f)];have h0:∀ L,(Cb Adf [(0,Tv n f)] 0 (Me L) (Ua n f)).sem=some (XH n f n (Jg (λk=>AK (f k)) n)):=λL=>by
  show (A3 (Me L) (Tv n f) (n+1) (CE (Ua n f) [(1,bV false)])).sem=_;rw [Ajr,<- Aa9 (λk=>AK (f k))];exact AfK L n f (JE hn) n 0 _ (n+1) (by omega) (by omega)
 have hw:=AH (AA hL hL) _ (Ant _ _ n f _ (FG hn) ED (Au (h0 _)));rw [NV (λk=>AK (f k)) n] at hw;exact ⟨_,cxZ Gl UH Adf [(0,Tv n f)],_,ha,rfl,hx.1,hx.2,hw,Aw.refl _⟩
def lp95 (n:Nat) (f:Nat->E6):Lp:=⟨bmK 21 0 [0,3,4],2,bmK 21 0 [3],2,n+1⟩
def st95 (n:Nat) (f:Nat->E6) (i:Nat) (h:Nat->Bool) (j:Nat->V):St:=⟨jsV 21 0 j [(0,.sl 6 n (λi=>eV (f i))),(3,.ref 1),(4,nV i)],[.row 3 1 0 Aa,.row 4 1 i (λk=>bV (h k))]⟩
def XG (n:Nat) (f:Nat->E6) (i:Nat) (h:Nat->Bool):Ex×St:=(.ex 0,⟨jsV 21 0 Aa [(3,.ref 1)],[.row 3 1 0 Aa,.row 4 1 i (λk=>bV (h k))]⟩)
noncomputable def body95 (L:LT):St->T (Ex×St):=λst=>A7 tab ⟨Ap UH,L,Gl⟩ (Ar Tryz.f81 0) 0 st
section
variable (L:LT) (n:Nat) (f:Nat->E6) (i:Nat) (h:Nat->Bool)  (j:Nat->V)
include L n f i h j
theorem AlJ (h0:ilt (ofNat i) (ofNat n)=false):Ah (body95 L) (lp95 n f) (st95 n f i h j)=some ((.ex 0),⟨jsV 21 0 Aa [(3,.ref 1)],[.row 3 1 0 Aa,.row 4 1 i (λk=>bV (h k))]⟩):=by
 exact Ab (ks:=[kn h0]) (by kernel_rfl)
theorem AlI (h0:ilt (ofNat i) (ofNat n)=true) (h1:Al (ile 0 (ofNat i)) (ilt (ofNat i) (ofNat n))=true) (h2:Ba i 1 1=true):Ah (body95 L) (lp95 n f) (st95 n f i h j)=some (.nm,⟨jsV 21 0 Aa [(0,.sl 6 n (λi=>eV (f i))),(3,.ref 1),(4,iV (wr .i64 (Af (ofNat i) 1)))],[.row 3 1 0 Aa,.row 4 1 (AS i 1) (As i (λk=>bV (h k)) (bV (AJ (f i))))]⟩):=by
 exact Ab (ks:=[kn h0,kn h1,kn h2]) (by kernel_rfl)
end
def TZ (n:Nat) (f:Nat->E6) :St:=⟨jsV 21 0 (λ_=>A9) [(0,.sl 6 n (λi=>eV (f i))),(2,.ref 0),(3,.ref 1),(4,iV 0)],[.row 3 1 0 Aa,.row 4 1 0 Aa]⟩
theorem Ans (L:LT) (p0:PT) (n:Nat) (f:Nat->E6) (q:Nat->Bool) (h0:Ea n=true) (h10:BC [.row 3 1 n (λ_=>iV 0)]=true) (hp0:p0 (body95 (onP 0 p0 (XG n f n q) L)) (TZ n f)=true):(Az (Ak tab ⟨Ap UH,onP 0 p0 (XG n f n q) L,Gl⟩ Tryz.f81 [AQ n f] [])).sem=some ((.ref 0),[.row 3 1 n (λk=>iV (AG q n k))]):=by
 exact Ab (ks:=[kn hp0,kL n,kn h0,kn h10]) (by kernel_rfl)
theorem run95 (L:LT) (n:Nat) (f:Nat->E6) (h8:n * 8 <= 140737488355328):∀ (e i:Nat) (j:Nat->V) (q:Nat),n=i+e->e<q ->
  (A3 (body95 L) (lp95 n f) q (st95 n f i (Jg (λk=>AJ (f k)) i) j)).sem=some (XG n f n (Jg (λk=>AJ (f k)) n))
 | 0,i,j,q+1,h,_=>by
  have:n=i:=by omega
  subst this;exact Ae (AlJ L n f _ _ j (A1 (Nat.le_refl _)))
 | e+1,i,j,q+1,h,h2=>by
  have hl:i<n:=by omega
  have ha:Ba i 1 1=true:=BS (by omega);rw [Ae (AlI L n f i (Jg (λk=>AJ (f k)) i) j (ofNat_lt hl) (Ao hl) ha),Ay,Aq hl (by omega)];have:=PU (λk=>AJ (f k)) i;rw [this];exact run95 L n f h8 e (i+1) Aa q (by omega) (by omega)
def Ade:List (Nat×List (Nat×V)):=[(0,[(1,bV false)])]
theorem Ajq (n:Nat) (f:Nat->E6):CE (TZ n f) [(1,bV false)]=st95 n f 0 (λ_=>false) (λi=>nth (TZ n f).t i):=by kernel_rfl
def Rt:List V->AR:=FT λn f=>.br (BF n) (.leaf (.ref 0,[.row 3 1 n λk=>iV (AG (λk=>AJ (f k)) n k)])) .fail
theorem p95:Ax Tryz.prog Gl 81 Rt:=by
 refine Am A8 mixed Tryz.func81 (by kernel_rfl) (by kernel_rfl) λvs v h' h=>?_;obtain ⟨n,f,ha,h1⟩:=Ct h;obtain ⟨hn,hq⟩:=Ad h1;have:=Ac hq;simp only [Prod.mk.injEq] at this;obtain ⟨rfl,rfl⟩:=this;have hx:=JI WB Ade [(0,lp95 n f)];have hL:=DO Ade [(0,lp95 n f)];have h0:∀ L,(Cb Ade [(0,lp95 n f)] 0 (body95 L) (TZ n f)).sem=some (XG n f n (Jg (λk=>AJ (f k)) n)):=λL=>by
  show (A3 (body95 L) (lp95 n f) (n+1) (CE (TZ n f) [(1,bV false)])).sem=_;rw [Ajq,<- Aa9 (λk=>AJ (f k))];exact run95 L n f (JE hn) n 0 _ (n+1) (by omega) (by omega)
 have hw:=AH (AA hL hL) _ (Ans _ _ n f _ (FG hn) ED (Au (h0 _)));rw [NV (λk=>AJ (f k)) n] at hw;exact ⟨_,cxZ Gl UH Ade [(0,lp95 n f)],_,ha,rfl,hx.1,hx.2,hw,Aw.refl _⟩
noncomputable def tb53:AP:=(71,AiX)::(80,Ru)::(81,Rt)::[]
theorem tb53_ok:Av Tryz.prog Gl tb53:=.cons p98 <| .cons p94 <| .cons p95 .nil
def Kq (g:Nat->(Nat->E6)->Nat->Int):List V->AR:=FT λn f=>.br (BF n) (match Co n f with
 | true=>.leaf (.tup [.ref 0,iV 0],[.row 3 1 n λk=>iV (g n f k)])
 | false=>.leaf (.tup [.ref 0,iV 30],[.row 3 1 0 λ_=>.und])) .fail
theorem p53:Ax Tryz.prog Gl 54 (Kq λn f=>AG (λk=>AK (f k)) n):=by
 refine Am A8 mixed Tryz.func54 (by kernel_rfl) (by kernel_rfl) λvs v h' h=>?_;obtain ⟨n,f,ha,h1⟩:=Ct h;obtain ⟨hn,hq⟩:=Ad h1;have hx:=AI tb53_ok [];have hs:Aj n=true:=VQ (FG hn);cases hm:Co n f with
 | true =>rw [hm] at hq;have:=Ac hq;simp only [Prod.mk.injEq] at this;obtain ⟨rfl,rfl⟩:=this;exact ⟨_,AC Gl tb53 [],_,ha,rfl,hx.1,hx.2,Ab (ks:=[kL n,kn hs,kN (kn hm),kL n,kn hn]) (by kernel_rfl),Aw.refl _⟩
 | false =>rw [hm] at hq;have:=Ac hq;simp only [Prod.mk.injEq] at this;obtain ⟨rfl,rfl⟩:=this;exact ⟨_,AC Gl tb53 [],_,ha,rfl,hx.1,hx.2,Ab (ks:=[kL n,kn hs,kN (kn hm)]) (by kernel_rfl),Aw.refl _⟩
theorem p54:Ax Tryz.prog Gl 55 (Kq λn f=>AG (λk=>AJ (f k)) n):=by
 refine Am A8 mixed Tryz.func55 (by kernel_rfl) (by kernel_rfl) λvs v h' h=>?_;obtain ⟨n,f,ha,h1⟩:=Ct h;obtain ⟨hn,hq⟩:=Ad h1;have hx:=AI tb53_ok [];have hs:Aj n=true:=VQ (FG hn);cases hm:Co n f with
 | true =>rw [hm] at hq;have:=Ac hq;simp only [Prod.mk.injEq] at this;obtain ⟨rfl,rfl⟩:=this;exact ⟨_,AC Gl tb53 [],_,ha,rfl,hx.1,hx.2,Ab (ks:=[kL n,kn hs,kN (kn hm),kL n,kn hn]) (by kernel_rfl),Aw.refl _⟩
 | false =>rw [hm] at hq;have:=Ac hq;simp only [Prod.mk.injEq] at this;obtain ⟨rfl,rfl⟩:=this;exact ⟨_,AC Gl tb53 [],_,ha,rfl,hx.1,hx.2,Ab (ks:=[kL n,kn hs,kN (kn hm)]) (by kernel_rfl),Aw.refl _⟩
end Go.Proofs.YtkgdhhieomndeaaGreatDoor.Ed
namespace Go.Proofs.YtkgdhhieomndeaaGreatDoor.Sh
open Go.Sy Ed
open Int (ofNat)
theorem Ahq (e:E6):(Az (Ak tab (AC Gl [] []) Tryz.f118 [eV e] [])).sem=(sel (ieq (e).kind 1) (sel (ieq (e).kind 1) (sel (ieq (e).kind 1) (sel (ieq (e).kind 1) (some ((bV true),[])) none) none) none) (sel (ieq (e).kind 1) (sel (ieq (e).kind 1) (sel (ieq (e).kind 1) (some ((bV true),[])) none) none) (sel (ieq (e).kind 1) (sel (ieq (e).kind 1) (some ((bV true),[])) none) (sel (ieq (e).kind 1) (some ((bV true),[])) (sel (ieq (e).kind 2) (sel (ieq (e).kind 2) (sel (ieq (e).kind 2) (sel (ieq (e).kind 2) (some ((bV true),[])) (some (A9,[]))) none) none) (sel (ieq (e).kind 2) (sel (ieq (e).kind 2) (sel (ieq (e).kind 2) (some ((bV true),[])) (some (A9,[]))) none) (sel (ieq (e).kind 2) (sel (ieq (e).kind 2) (some ((bV true),[])) (some (A9,[]))) (sel (ieq (e).kind 2) (some ((bV true),[])) (some ((bV (ieq (e).kind 3)),[])))))))))):=by kernel_rfl
theorem p91:Ax Tryz.prog Gl 118 (BI λe=>bV (B3 e)):=by
 refine Ax.congr (AN A8 mixed Tryz.func118 (by kernel_rfl) (by kernel_rfl) (Γ:=AC Gl [] []) (AI Av.nil _)) λvs r h=>?_;obtain ⟨e,rfl,rfl⟩:=Ca h;refine (Ahq e).trans ?_;rw [OQ];cases ieq e.kind 1 <;> cases ieq e.kind 2 <;> cases ieq e.kind 3 <;> rfl
noncomputable def ZR:AP:=(118,BI λe=>bV (B3 e))::[]
theorem WF:Av Tryz.prog Gl ZR:=.cons p91 .nil
theorem Ahw (e:E6):(Az (Ak tab (AC Gl ZR []) Tryz.f85 [eV e] [])).sem=(sel (B3 e) (sel (B3 e) (sel (B3 e) (some ((bV (e).ext),[])) (some ((bV false),[]))) (sel (B3 e) (some (A9,[])) (some ((bV false),[])))) (sel (B3 e) none (sel (B3 e) (some (A9,[])) (some ((bV false),[]))))):=by kernel_rfl
theorem p52:Ax Tryz.prog Gl 85 (BI λe=>bV (AK e)):=by
 refine Ax.congr (AN A8 mixed Tryz.func85 (by kernel_rfl) (by kernel_rfl) (Γ:=AC Gl ZR []) (AI WF _)) λvs r h=>?_;obtain ⟨e,rfl,rfl⟩:=Ca h;refine (Ahw e).trans ?_;unfold AK;cases B3 e <;> rfl
theorem Ahv (e:E6):(Az (Ak tab (AC Gl ZR []) Tryz.f87 [eV e] [])).sem=(sel (A6 (B3 e)) (sel (A6 (B3 e)) (sel (A6 (B3 e)) (sel (A6 (B3 e)) (some ((bV (A6 (e).same)),[])) (some ((bV false),[]))) (sel (A6 (B3 e)) (some (A9,[])) (some ((bV false),[])))) (sel (A6 (B3 e)) none (sel (A6 (B3 e)) (some (A9,[])) (some ((bV false),[]))))) (sel (A6 (B3 e)) none (sel (A6 (B3 e)) none (sel (A6 (B3 e)) (some (A9,[])) (some ((bV false),[])))))):=by kernel_rfl
theorem p54:Ax Tryz.prog Gl 87 (BI λe=>bV (AJ e)):=by
 refine Ax.congr (AN A8 mixed Tryz.func87 (by kernel_rfl) (by kernel_rfl) (Γ:=AC Gl ZR []) (AI WF _)) λvs r h=>?_;obtain ⟨e,rfl,rfl⟩:=Ca h;refine (Ahv e).trans ?_;unfold AJ;cases B3 e <;> rfl
noncomputable def MJ (n:Nat) (f:Nat->Int) (x:Int):Int:=match (List.range n).find? λi=>ieq x (f i) with
 | some i=>ofNat i
 | none=>-1
theorem Qo {n:Nat} {f:Nat->Int} {x:Int} {i:Nat} (hi:i<n) (h:ieq x (f i)=true) (hb:∀ k,k<i->ieq x (f k)=false):MJ n f x=ofNat i:=by
 unfold MJ;have:(List.range n).find? (λi=>ieq x (f i))=some i:=by
  rw [List.find?_range_eq_some];exact ⟨h,by simpa using hi,λj hj=>by rw [hb j hj]; rfl⟩
 rw [this]
theorem TK {n:Nat} {f:Nat->Int} {x:Int} (h:∀ k,k<n->ieq x (f k)=false):MJ n f x = -1:=by
 unfold MJ;have:(List.range n).find? (λi=>ieq x (f i))=none:=by
  rw [List.find?_eq_none];intro k hk;rw [h k (by simpa using hk)];simp
 rw [this]
def Oj (n:Nat) (f:Nat->Int) (x:Int):Lp:=⟨bmK 19 0 [0,1,4,7,8],0,bmK 19 0 [4],0,n+1⟩
def QQ (n:Nat) (f:Nat->Int) (x:Int) (b:Nat) (j:Nat->V):St:=⟨jsV 19 0 j [(0,.sl 1 n λk=>iV (f k)),(1,iV x),(4,iV 0),(7,nV n),(8,nV b)],[]⟩
def XI (n:Nat) (f:Nat->Int) (x:Int) (b:Nat):Ex×St:=(.rt,⟨jsV 19 0 Aa [(4,nV b)],[]⟩)
def XJ (n:Nat) (f:Nat->Int) (x:Int) (b:Nat):Ex×St:=(.ex 0,⟨jsV 19 0 Aa [(4,iV 0)],[]⟩)
noncomputable def H8 (L:LT):St->T (Ex×St):=λst=>A7 tab ⟨Ap tb0,L,Gl⟩ (Ar Tryz.f119 0) 0 st
section
variable (L:LT) (n:Nat) (f:Nat->Int) (x:Int) (b:Nat)  (j:Nat->V)
include L n f x b j
theorem Alq (h0:ilt (ofNat b) (ofNat n)=true) (h11:ile 0 (ofNat b)=true) (h1:ieq x (f b)=false):Ah (H8 L) (Oj n f x) (QQ n f x b j)=some (.nm,⟨jsV 19 0 Aa [(0,.sl 1 n (λk=>iV (f k))),(1,iV x),(4,iV 0),(7,nV n),(8,iV (wr .i64 (Af (ofNat b) 1)))],[]⟩):=by
 exact Ab (ks:=[kn h0,kA (kn h11) (kn h0),kn h1]) (by kernel_rfl)
theorem Alp (h0:ilt (ofNat b) (ofNat n)=true) (h11:ile 0 (ofNat b)=true) (h1:ieq x (f b)=true):Ah (H8 L) (Oj n f x) (QQ n f x b j)=some (.rt,⟨jsV 19 0 Aa [(4,nV b)],[]⟩):=by
 exact Ab (ks:=[kn h0,kA (kn h11) (kn h0),kn h1]) (by kernel_rfl)
theorem Alr (h0:ilt (ofNat b) (ofNat n)=false):Ah (H8 L) (Oj n f x) (QQ n f x b j)=some ((.ex 0),⟨jsV 19 0 Aa [(4,iV 0)],[]⟩):=by
 exact Ab (ks:=[kn h0]) (by kernel_rfl)
end
def Ajf (n:Nat) (f:Nat->Int) (x:Int) :Nat->V:=lkV A9 [(6,.sl 1 n (λk=>iV (f k)))]
theorem AjV (L:LT) (p0:PT) (n:Nat) (f:Nat->Int) (x:Int) (b:Nat)  (hp0:p0 (H8 (onP 0 p0 (XI n f x b) L)) (QQ n f x 0 (Ajf n f x ))=true):(Az (Ak tab ⟨Ap tb0,onP 0 p0 (XI n f x b) L,Gl⟩ Tryz.f119 [.sl 1 n λk=>iV (f k),iV x] [])).sem=some ((nV b),[]):=by
 exact Ab (ks:=[kn hp0]) (by kernel_rfl)
theorem AjW (L:LT) (p0:PT) (n:Nat) (f:Nat->Int) (x:Int)  (hp0:p0 (H8 (onP 0 p0 (XJ n f x 0) L)) (QQ n f x 0 (Ajf n f x ))=true):(Az (Ak tab ⟨Ap tb0,onP 0 p0 (XJ n f x 0) L,Gl⟩ Tryz.f119 [.sl 1 n λk=>iV (f k),iV x] [])).sem=some ((iV (-1)),[]):=by
 exact Ab (ks:=[kn hp0]) (by kernel_rfl)
theorem AfL (L:LT) (n:Nat) (f:Nat->Int) (x:Int) (hn:n <= 4611686018427387904):∀ (e i:Nat) (j:Nat->V) (q:Nat),n=i+e->e<q->(∀ k,k<i->ieq x (f k)=false) ->
  ((A3 (H8 L) (Oj n f x) q (QQ n f x i j)).sem=some (XJ n f x 0)∧MJ n f x = -1) ∨ ∃ b,(A3 (H8 L) (Oj n f x) q (QQ n f x i j)).sem=some (XI n f x b)∧MJ n f x=ofNat b
 | 0,i,j,q+1,h,_,hb=>by
  have:n=i:=by omega
  subst this;exact .inl ⟨Ae (Alr L n f x n j (A1 (Nat.le_refl _))),TK hb⟩
 | e+1,i,j,q+1,h,h2,hb=>by
  have hl:i<n:=by omega
  cases hp:ieq x (f i) with
  | true =>exact .inr ⟨i,Ae (Alp L n f x i j (ofNat_lt hl) (AF i) hp),Qo hl hp hb⟩
  | false =>
   rw [Ae (Alq L n f x i j (ofNat_lt hl) (AF i) hp),Ay,Aq hl hn];refine AfL L n f x hn e (i+1) Aa q (by omega) (by omega) λk hk=>?_;by_cases hki:k=i
   ·rw [hki]; exact hp
   ·exact hb k (by omega)
noncomputable def VK:List V->AR
 | [v,.val (.int .i64 x)]=>apI v λn f=>.br (Ea n) (.leaf (iV (MJ n f x),[])) .fail
 | _=>.fail
theorem p92:Ax Tryz.prog Gl 119 VK:=by
 refine Am A8 mixed Tryz.func119 (by kernel_rfl) (by kernel_rfl) λvs v h' h=>?_;unfold VK at h;split at h
 ·rename_i u x
  obtain ⟨n,f,ha,h1⟩:=He h;obtain ⟨h8,hq⟩:=Ad h1;have:=Ac hq;simp only [Prod.mk.injEq] at this;obtain ⟨rfl,rfl⟩:=this;have h8':n * 8 <= 140737488355328:=of_decide_eq_true h8;have hA:Bf [u,iV x] [EJ n f,iV x]:=λS w cs hv=>by
   obtain ⟨c,l,rfl,q1,q2⟩:=hv;exact ⟨c,l,rfl,ha S w c q1,q2⟩
  have hx:=AI C8 [(0,Oj n f x)] (G:=Gl);have hL:=AL [(0,Oj n f x)];refine ⟨_,AC Gl tb0 [(0,Oj n f x)],_,hA,rfl,hx.1,hx.2,?_,Aw.refl _⟩;have h0:=λL j=>AfL L n f x (by omega) n 0 j (n+1) (by omega) (by omega) (λk hk=>absurd hk (Nat.not_lt_zero _));rcases h0 (AW [(0,Oj n f x)]) (Ajf n f x) with ⟨_,h5⟩ | ⟨b,_,h5⟩
  ·have h6:∀ L j,(A3 (H8 L) (Oj n f x) (n+1) (QQ n f x 0 j)).sem=some (XJ n f x 0):=λL j=>by
    rcases h0 L j with ⟨h,_⟩ | ⟨b,_,h⟩
    ·exact h
    ·rw [h5] at h
     cases h
   rw [h5];exact AH (AA hL hL) _ (AjW _ _ n f x (Au (h6 _ _)))
  ·have h6:∀ L j,(A3 (H8 L) (Oj n f x) (n+1) (QQ n f x 0 j)).sem=some (XI n f x b):=λL j=>by
    rcases h0 L j with ⟨_,h⟩ | ⟨b',h,h'⟩
    ·rw [h5] at h
     cases h
    ·rw [h5] at h'
     cases h';exact h
   rw [h5];exact AH (AA hL hL) _ (AjV _ _ n f x b (Au (h6 _ _)))
 ·cases h
end Go.Proofs.YtkgdhhieomndeaaGreatDoor.Sh
namespace Go.Proofs.YtkgdhhieomndeaaGreatDoor.Sh
open Go.Sy Ed
inductive Begin (p:Nat->Bool) (n:Nat):Nat->Prop
 | none:(∀ k,k<n->p k=false)->Begin p n 0
 | last:0<n->p (n-1)=true->Begin p n 0
 | first {z:Nat}:0<z->z<n->p (z-1)=true->(∀ k,k<z-1->p k=false)->p (n-1)=false->Begin p n z
theorem GX {p:Nat->Bool}:∀ {k:Nat},(∀ i,i<k->p i=false)->An p k=0
 | 0,_=>rfl
 | k+1,h=>by rw [BU (h k (Nat.lt_succ_self k)),GX λi hi=>h i (by omega)]
theorem Mc (p:Nat->Bool) (k:Nat):An p (k+1)=An p k ∨ An p (k+1)=An p k+1:=by
 cases h:p k with
 | true=>exact .inr (Bx h)
 | false=>exact .inl (BU h)
def F3 (p:Nat->Bool) (n z t:Nat):Bool:=p ((z+t) % n)
theorem GV {p:Nat->Bool} {n z:Nat}:∀ {t:Nat},z+t <= n->An (F3 p n z) t+An p z=An p (z+t)
 | 0,_=>by simp [An]
 | t+1,h=>by
  have ih:=GV (p:=p) (n:=n) (z:=z) (t:=t) (by omega);have he:F3 p n z t=p (z+t):=by unfold F3; rw [Nat.mod_eq_of_lt (by omega)]
  rw [show z+(t+1)=z+t+1 by omega];cases hp:p (z+t) with
  | true=>rw [Bx (he.trans hp),Bx hp]; omega
  | false=>rw [BU (he.trans hp),BU hp]; exact ih
theorem Q6 {p:Nat->Bool} {n z:Nat} (hz:z <= n):∀ {i:Nat},i <= z->An (F3 p n z) (n-z+i)+An p z=An p n+An p i
 | 0,_=>by
  have:=GV (p:=p) (n:=n) (z:=z) (t:=n-z) (by omega);rw [show z+(n-z)=n by omega] at this;simpa [An] using this
 | i+1,h=>by
  have ih:=Q6 (p:=p) (n:=n) (z:=z) hz (i:=i) (by omega);have he:F3 p n z (n-z+i)=p i:=by
   unfold F3;rw [show z+(n-z+i)=i+n by omega,Nat.add_mod_right,Nat.mod_eq_of_lt (by omega)]
  rw [show n-z+(i+1)=n-z+i+1 by omega];cases hp:p i with
  | true=>rw [Bx (he.trans hp),Bx hp]; omega
  | false=>rw [BU (he.trans hp),BU hp]; exact ih
def posN (n z i:Nat):Nat:=(i+(n-z)) % n
def AX (p:Nat->Bool) (n k:Nat):Nat:=if An p k=An p n then 0 else An p k
theorem Fn {p:Nat->Bool} {n k:Nat} (h:k<n):AG p n k=Int.ofNat (AX p n k):=by
 unfold AG AX;rw [show decide (k<n)=true by simpa using h];simp only [cond_true];by_cases he:An p k=An p n
 ·simp [he]
 ·simp [he]
def snN (p:Nat->Bool) (n z v:Nat):Nat:=if z=0 then v else if v=0 then An p n-1 else v-1
theorem Aef {p:Nat->Bool} {n z:Nat} (hb:Begin p n z) {i:Nat} (hi:i<n):An (F3 p n z) (posN n z i)=snN p n z (AX p n i):=by
 have hmi:=Bb p (show i <= n by omega);cases hb with
 | none h0 =>
  have h1:An p n=0:=GX h0;have h2:posN n 0 i=i:=by unfold posN; rw [Nat.sub_zero,Nat.add_mod_right,Nat.mod_eq_of_lt hi]
  have h3:=GV (p:=p) (n:=n) (z:=0) (t:=i) (by omega);rw [Nat.zero_add] at h3;rw [h2];unfold snN AX;rw [if_pos rfl,h1];simp [An] at h3;rw [h3];split <;> omega
 | last hn h0 =>
  have h2:posN n 0 i=i:=by unfold posN; rw [Nat.sub_zero,Nat.add_mod_right,Nat.mod_eq_of_lt hi]
  have h3:=GV (p:=p) (n:=n) (z:=0) (t:=i) (by omega);rw [Nat.zero_add] at h3;have h4:An p n=An p (n-1)+1:=by
   have:=Bx h0;rwa [show n-1+1=n by omega] at this
  have h5:=Bb p (show i <= n-1 by omega);rw [h2];unfold snN AX;rw [if_pos rfl];simp [An] at h3;rw [h3,if_neg (by omega)]
 | first hz hzn h0 h1 h2 =>
  have c0:An p (z-1)=0:=GX h1;have c1:An p z=1:=by
   have:=Bx h0;rwa [show z-1+1=z by omega,c0] at this
  have hK:=Bb p (show z <= n by omega);unfold snN AX;rw [if_neg (by omega)];rcases Nat.lt_or_ge i z with hc | hc
  ·have e1:posN n z i=n-z+i:=by unfold posN; rw [Nat.mod_eq_of_lt (by omega)]; omega
   have e2:=Q6 (p:=p) (n:=n) (z:=z) (by omega) (i:=i) (by omega);have e3:An p i=0:=GX λk hk=>h1 k (by omega);have e4:(if An p i=An p n then 0 else An p i)=0:=by split <;> omega
   rw [e1,if_pos e4];omega
  ·have e1:posN n z i=i-z:=by unfold posN; rw [show i+(n-z)=i-z+n by omega,Nat.add_mod_right,Nat.mod_eq_of_lt (by omega)]
   have e2:=GV (p:=p) (n:=n) (z:=z) (t:=i-z) (by omega);rw [show z+(i-z)=i by omega] at e2;have e3:=Bb p hc;rw [e1];by_cases he:An p i=An p n
   ·rw [if_pos he,if_pos rfl]; omega
   ·rw [if_neg he,if_neg (by omega:¬ An p i=0)]; omega
theorem Aaf {p:Nat->Bool} {n z u v:Nat} (hu:u <= v) (hv:v=0 ∨ v<An p n) (h:snN p n z u=snN p n z v):u=v:=by
 unfold snN at h;split at h
 ·exact h
 ·split at h <;> split at h <;> omega
def rN (p:Nat->Bool) (n:Nat):Nat->Nat
 | 0=>0
 | b+1=>if AX p n b<rN p n b then rN p n b else rN p n b+1
theorem NU {p:Nat->Bool} {n k:Nat} (h:k <= n):AX p n k=0 ∨ AX p n k<An p n:=by
 have:=Bb p h;unfold AX;split
 ·exact .inl rfl
 ·exact .inr (by omega)
theorem AaN (p:Nat->Bool) (n:Nat):AX p n 0=0:=by
 have h:An p 0=0:=rfl;unfold AX;split
 ·rfl
 ·exact h
theorem AaJ (p:Nat->Bool) (n:Nat):∀ b,b<n->rN p n (b+1)=if An p b=An p n then max (An p n) 1 else An p b+1
 | 0,h=>by
  have h1:rN p n (0+1)=1:=by
   rw [rN,AaN];simp [rN]
  have h2:An p 0=0:=rfl;rw [h1,h2];split <;> omega
 | b+1,h=>by
  have ih:=AaJ p n b (by omega);have h1:=Bb p (show b+1 <= n by omega);have h2:=Bb p (show b <= n by omega);have h3:=Bb p (show b <= b+1 by omega);have h4:=Mc p b;rw [rN,ih];unfold AX;by_cases e1:An p (b+1)=An p n
  ·rw [if_pos e1,if_pos e1]
   by_cases e2:An p b=An p n
   ·rw [if_pos e2,if_pos (by omega)]
   ·rw [if_neg e2,if_pos (by omega)]; omega
  ·rw [if_neg e1,if_neg e1]
   have e2:¬ An p b=An p n:=by omega
   rw [if_neg e2];split <;> omega
theorem MZ (p:Nat->Bool) (n:Nat):∀ b,b<n->AX p n b <= rN p n b
 | 0,h=>by
  rw [AaN];exact Nat.zero_le _
 | b+1,h=>by
  rw [AaJ p n b (by omega)];have h1:=Bb p (show b+1 <= n by omega);have h4:=Mc p b;have h3:=Bb p (show b <= b+1 by omega);unfold AX;split
  ·omega
  ·split <;> omega
theorem WU (p:Nat->Bool) (n:Nat):∀ b,rN p n b <= b
 | 0=>Nat.le_refl _
 | b+1=>by
  have:=WU p n b;simp only [rN];split <;> omega
theorem Age (p:Nat->Bool) (n:Nat):∀ b,b <= n->∀ v,v<rN p n b->v=0 ∨ v<An p n
 | 0,_,v,h=>by simp [rN] at h
 | b+1,hb,v,h=>by
  have ih:=Age p n b (by omega) v;simp only [rN] at h;split at h
  ·exact ih h
  ·rename_i h2
   have h3:=MZ p n b (by omega);by_cases hv:v<rN p n b
   ·exact ih hv
   ·have:v=AX p n b:=by omega
    rw [this];exact NU (by omega)
end Go.Proofs.YtkgdhhieomndeaaGreatDoor.Sh
