/-
  The document's parts, threads, locations: the part of each edge. No conditions.
-/
import Derived.Test.YtkbafjceglhjhaaGreatDoorCyO
namespace Go.Proofs.YtkbafjceglhjhaaGreatDoor.Ed
open Go.Sy
set_option maxHeartbeats 4000000
open Int (ofNat)
def OS (n:Nat) (p:Nat->Bool):Lp:=⟨bmK 57 0 [0,3,4,5],2,bmK 57 0 [0,3,4],2,n+1⟩
def Ry (n:Nat) (p:Nat->Bool) (s:Int) (i:Nat) (h:Nat->Int) (j:Nat->V):St:=⟨jsV 57 0 j [(0,.sl 1 n (λk=>bV (p k))),(3,.ref 1),(4,iV s),(5,nV i)],[.row 3 1 0 Ab,.row 3 1 i (λk=>iV (h k))]⟩
def F9 (n:Nat) (p:Nat->Bool) (s:Int) (i:Nat) (h:Nat->Int):Ex×St:=(.ex 0,⟨jsV 57 0 Ab [(0,.sl 1 n (λk=>bV (p k))),(3,.ref 1),(4,iV s)],[.row 3 1 0 Ab,.row 3 1 i (λk=>iV (h k))]⟩)
noncomputable def E9 (L:LT):St->T (Ex×St):=λst=>AL tab ⟨A0 tb0,L,Gl⟩ (A3 Tryz.f185 0) 0 st
section
variable (L:LT) (n:Nat) (p:Nat->Bool) (s:Int) (i:Nat) (h:Nat->Int)  (j:Nat->V)
include L n p s i h j
theorem AgL (h0:ilt (ofNat i) (ofNat n)=false):Ay (E9 L) (OS n p) (Ry n p s i h j)=some ((.ex 0),⟨jsV 57 0 Ab [(0,.sl 1 n (λk=>bV (p k))),(3,.ref 1),(4,iV s)],[.row 3 1 0 Ab,.row 3 1 i (λk=>iV (h k))]⟩):=by
 exact Ad (ks:=[kn h0]) (by kernel_rfl)
theorem AgJ (h0:ilt (ofNat i) (ofNat n)=true) (h2:Cp i 1 8=true) (h1:Aj (ile 0 (ofNat i)) (ilt (ofNat i) (ofNat n))=true) (h3:p i=true):Ay (E9 L) (OS n p) (Ry n p s i h j)=some (.nm,⟨jsV 57 0 Ab [(0,.sl 1 n (λk=>bV (p k))),(3,.ref 1),(4,iV (wr .i64 (Ah s 1))),(5,iV (wr .i64 (Ah (ofNat i) 1)))],[.row 3 1 0 Ab,.row 3 1 (B1 i 1) (Bb i (λk=>iV (h k)) (iV s))]⟩):=by
 exact Ad (ks:=[kn h0,kn h2,kn h1,kn h3]) (by kernel_rfl)
theorem AgK (h0:ilt (ofNat i) (ofNat n)=true) (h2:Cp i 1 8=true) (h1:Aj (ile 0 (ofNat i)) (ilt (ofNat i) (ofNat n))=true) (h3:p i=false):Ay (E9 L) (OS n p) (Ry n p s i h j)=some (.nm,⟨jsV 57 0 Ab [(0,.sl 1 n (λk=>bV (p k))),(3,.ref 1),(4,iV s),(5,iV (wr .i64 (Ah (ofNat i) 1)))],[.row 3 1 0 Ab,.row 3 1 (B1 i 1) (Bb i (λk=>iV (h k)) (iV s))]⟩):=by
 exact Ad (ks:=[kn h0,kn h2,kn h1,kn h3]) (by kernel_rfl)
end
def HT (n:Nat) (p:Nat->Bool) :St:=⟨jsV 57 0 (λ_=>AI) [(0,.sl 1 n (λk=>bV (p k))),(2,.ref 0),(3,.ref 1),(4,iV 0),(5,iV 0)],[.row 3 1 0 Ab,.row 3 1 0 Ab]⟩
def JO (n:Nat) (p:Nat->Bool):Lp:=⟨bmK 57 0 [0,3,7],2,bmK 57 0 [3],2,n+1⟩
def JB (n:Nat) (p:Nat->Bool) (d:Int) (g:Nat->Int) (j:Nat->V):St:=⟨jsV 57 0 j [(0,.sl 1 n (λk=>bV (p k))),(3,.ref 1),(7,iV d)],[.row 3 1 0 Ab,.row 3 1 n (λk=>iV (g k))]⟩
def Kk (n:Nat) (p:Nat->Bool) (d:Int) (g:Nat->Int):Ex×St:=(.ex 2,⟨jsV 57 0 Ab [(3,.ref 1)],[.row 3 1 0 Ab,.row 3 1 n (λk=>iV (g k))]⟩)
noncomputable def GI (L:LT):St->T (Ex×St):=λst=>AL tab ⟨A0 tb0,L,Gl⟩ (A3 Tryz.f185 2) 2 st
section
variable (L:LT) (n:Nat) (p:Nat->Bool) (d:Int) (g:Nat->Int)  (j:Nat->V)
include L n p d g j
theorem Agy (h0:ile 0 d=false):Ay (GI L) (JO n p) (JB n p d g j)=some ((.ex 2),⟨jsV 57 0 Ab [(3,.ref 1)],[.row 3 1 0 Ab,.row 3 1 n (λk=>iV (g k))]⟩):=by
 exact Ad (ks:=[kn h0,kn h0,kn h0,kn h0,kn h0,kn h0,kF]) (by kernel_rfl)
theorem Agx (h0:ile 0 d=true) (h1:Aj (ile 0 d) (ilt d (ofNat n))=true) (h3:p (toN d)=true):Ay (GI L) (JO n p) (JB n p d g j)=some ((.ex 2),⟨jsV 57 0 Ab [(3,.ref 1)],[.row 3 1 0 Ab,.row 3 1 n (λk=>iV (g k))]⟩):=by
 exact Ad (ks:=[kn h0,kn h0,kn h0,kn h1,kn h0,kn h0,kn h0,kN (kn h3)]) (by kernel_rfl)
theorem Agw (h0:ile 0 d=true) (h1:Aj (ile 0 d) (ilt d (ofNat n))=true) (h3:p (toN d)=false) (h2:nlt (toN d) n=true):Ay (GI L) (JO n p) (JB n p d g j)=some (.nm,⟨jsV 57 0 Ab [(0,.sl 1 n (λk=>bV (p k))),(3,.ref 1),(7,iV (wr .i64 (Bw d 1)))],[.row 3 1 0 Ab,.row 3 1 n (BA (λk=>iV (g k)) (toN d) (iV 0))]⟩):=by
 exact Ad (ks:=[kn h0,kn h0,kn h0,kn h1,kn h0,kn h0,kn h0,kN (kn h3),kn h1,kn h2]) (by kernel_rfl)
end
def AcT (n:Nat) (p:Nat->Bool) (s:Int) (g:Nat->Int):Nat->V:=lkU 144110790046121766 [(4,iV s),(6,nV n),(24,.sl 1 n (λk=>bV (p k))),(25,nV n),(26,nV n),(27,bV (ilt 0 (ofNat n))),(28,bV (ilt 0 (ofNat n))),(29,iV s),(30,bV (ilt 0 s)),(31,bV (ilt 0 s)),(32,bV (ilt 0 s)),(33,.sl 1 n (λk=>bV (p k))),(34,nV n),(35,iV (wr .i64 (Bw (ofNat n) 1))),(36,.pp (bV (p (toN (wr .i64 (Bw (ofNat n) 1)))))),(37,bV (p (toN (wr .i64 (Bw (ofNat n) 1))))),(38,bV (AN (p (toN (wr .i64 (Bw (ofNat n) 1)))))),(39,bV (AN (p (toN (wr .i64 (Bw (ofNat n) 1)))))),(40,nV n),(41,iV (wr .i64 (Bw (ofNat n) 1)))]
section
variable (L:LT) (p0:PT) (n:Nat) (p:Nat->Bool) (s:Int) (g:Nat->Int)
include L p0 n p s g
theorem Afu (h0:ilt 0 (ofNat n)=false) (hp0:p0 (E9 (onP 0 p0 (F9 n p s n g) L)) (HT n p)=true):(Ax (Ak tab ⟨A0 tb0,onP 0 p0 (F9 n p s n g) L,Gl⟩ Tryz.f185 [.sl 1 n (λk=>bV (p k))] [])).sem=some ((.ref 0),[.row 3 1 n (λk=>iV (g k))]):=by
 exact Ad (ks:=[kn hp0,kn h0,kn h0,kn h0,kF,kF,kF,kF,kF,kF,kF,kF]) (by kernel_rfl)
theorem Aft (h0:ilt 0 (ofNat n)=true) (h1:ilt 0 s=false) (hp0:p0 (E9 (onP 0 p0 (F9 n p s n g) L)) (HT n p)=true):(Ax (Ak tab ⟨A0 tb0,onP 0 p0 (F9 n p s n g) L,Gl⟩ Tryz.f185 [.sl 1 n (λk=>bV (p k))] [])).sem=some ((.ref 0),[.row 3 1 n (λk=>iV (g k))]):=by
 exact Ad (ks:=[kn hp0,kn h0,kn h0,kn h0,kn h1,kn h1,kn h1,kn h1,kn h1,kn h1,kn h1,kF]) (by kernel_rfl)
theorem Afs (h0:ilt 0 (ofNat n)=true) (h1:ilt 0 s=true) (h2:Aj (ile 0 (wr .i64 (Bw (ofNat n) 1))) (ilt (wr .i64 (Bw (ofNat n) 1)) (ofNat n))=true) (h3:p (toN (wr .i64 (Bw (ofNat n) 1)))=true) (hp0:p0 (E9 (onP 0 p0 (F9 n p s n g) L)) (HT n p)=true):(Ax (Ak tab ⟨A0 tb0,onP 0 p0 (F9 n p s n g) L,Gl⟩ Tryz.f185 [.sl 1 n (λk=>bV (p k))] [])).sem=some ((.ref 0),[.row 3 1 n (λk=>iV (g k))]):=by
 exact Ad (ks:=[kn hp0,kn h0,kn h0,kn h0,kn h1,kn h1,kn h1,kn h1,kn h2,kn h1,kn h1,kn h1,kN (kn h3)]) (by kernel_rfl)
end
theorem Afr (L:LT) (p0:PT) (p2:PT) (n:Nat) (p:Nat->Bool) (s:Int) (g:Nat->Int) (d:Int) (u:Nat->Int) (h0:ilt 0 (ofNat n)=true) (h1:ilt 0 s=true) (h2:Aj (ile 0 (wr .i64 (Bw (ofNat n) 1))) (ilt (wr .i64 (Bw (ofNat n) 1)) (ofNat n))=true) (h3:p (toN (wr .i64 (Bw (ofNat n) 1)))=false) (hp0:p0 (E9 (onP 0 p0 (F9 n p s n g) (onP 2 p2 (Kk n p d u) L))) (HT n p)=true) (hp2:p2 (GI (onP 0 p0 (F9 n p s n g) (onP 2 p2 (Kk n p d u) L))) (JB n p (wr .i64 (Bw (ofNat n) 1)) g (AcT n p s g))=true):(Ax (Ak tab ⟨A0 tb0,onP 0 p0 (F9 n p s n g) (onP 2 p2 (Kk n p d u) L),Gl⟩ Tryz.f185 [.sl 1 n (λk=>bV (p k))] [])).sem=some ((.ref 0),[.row 3 1 n (λk=>iV (u k))]):=by
 exact Ad (ks:=[kn hp0,kn h0,kn h0,kn h0,kn h1,kn h1,kn h1,kn h1,kn h2,kn h1,kn h1,kn h1,kN (kn h3),kn hp2]) (by kernel_rfl)
theorem RP (p:Nat->Bool) (i:Nat):Bb i (λk=>iV (CP p i k)) (iV (ofNat (Ai p i)))=λk=>iV (CP p (i+1) k):=by
 funext k;rw [BB,show Nat.beq k i=decide (k=i) by rw [Bool.eq_iff_iff]; simp];unfold CP;by_cases h:k=i
 ·subst h; simp
 ·by_cases h2:k<i
  ·have:k<i+1:=by omega
   simp [h,h2,this]
  ·have:¬ k<i+1:=by omega
   simp [h,h2,this]
theorem Bp {p:Nat->Bool} {i:Nat} (h:p i=true):Ai p (i+1)=Ai p i+1:=by rw [Ai,h]
theorem B6 {p:Nat->Bool} {i:Nat} (h:p i=false):Ai p (i+1)=Ai p i:=by rw [Ai,h]
theorem TX (L:LT) (n:Nat) (p:Nat->Bool) (h8:n * 8 <= 140737488355328):∀ (e i:Nat) (j:Nat->V) (q:Nat),n=i+e->e<q ->
  (A4 (E9 L) (OS n p) q (Ry n p (ofNat (Ai p i)) i (CP p i) j)).sem=some (F9 n p (ofNat (Ai p n)) n (CP p n))
 | 0,i,j,q+1,h,_=>by
  have:n=i:=by omega
  subst this;exact Ag (AgL L n p _ _ _ j (Au (Nat.le_refl _)))
 | e+1,i,j,q+1,h,h2=>by
  have hc:=By p i;have hl:i<n:=by omega
  have ha:Cp i 1 8=true:=Gc (by omega);cases hp:p i with
  | true =>rw [Ag (AgJ L n p (ofNat (Ai p i)) i (CP p i) j (ofNat_lt hl) ha (Ae hl) hp),AZ,A1 hl (by omega),A1 (show Ai p i<n by omega) (by omega),<- Bp hp,RP p i];exact TX L n p h8 e (i+1) Ab q (by omega) (by omega)
  | false =>rw [Ag (AgK L n p (ofNat (Ai p i)) i (CP p i) j (ofNat_lt hl) ha (Ae hl) hp),AZ,A1 hl (by omega),RP p i,<- B6 hp];exact TX L n p h8 e (i+1) Ab q (by omega) (by omega)
set_option maxHeartbeats 4000000 in
theorem Vs (L:LT) (n:Nat) (p:Nat->Bool) (hn:n <= 4611686018427387904) (hs:0<Ai p n):∀ (D:Nat) (j:Nat->V) (q:Nat),D <= n->D<q->(∀ k,D <= k->k<n->Ai p k=Ai p n) ->
  (A4 (GI L) (JO n p) q (JB n p (dn D) (CP p D) j)).sem=some (Kk n p 0 (Az p n))
 | 0,j,q+1,h,_,hb=>by
  rw [<- GW p n 0 h (λk hk=>absurd hk (Nat.not_lt_zero _)) hb];exact Ag (Agy L n p (dn 0) (CP p 0) j rfl)
 | D+1,j,q+1,h,h2,hb=>by
  have hD:D<n:=by omega
  have hk:nlt D n=true:=by simpa [nlt] using hD
  cases hp:p D with
  | false =>
   have he:Ai p D=Ai p n:=by
    rw [<- B6 hp];by_cases h5:D+1=n
    ·rw [h5]
    ·exact hb (D+1) (Nat.le_refl _) (by omega)
   rw [show dn (D+1)=ofNat D from rfl,Ag (Agw L n p (ofNat D) (CP p (D+1)) j (Cm D) (Ae hD) hp hk),AZ,Pd (show D <= n by omega) hn,Ca,show toN (ofNat D)=D from rfl,K7];exact Vs L n p hn hs D Ab q (by omega) (by omega) λk h3 h4=>by
    by_cases h5:k=D
    ·subst h5; exact he
    ·exact hb k (by omega) h4
  | true =>
   have h6:Ai p D<Ai p n:=by
    have:=AO p (show D+1 <= n by omega);rw [Bp hp] at this;omega
   rw [<- GW p n (D+1) h (λk hk=>by have:=AO p (show k <= D by omega); omega) hb];rw [show dn (D+1)=ofNat D from rfl];exact Ag (Agx L n p (ofNat D) (CP p (D+1)) j (Cm D) (Ae hD) hp)
def Rb:List (Nat×List (Nat×V)):=[(0,[(1,iV 0)])]
def MW (n:Nat) (p:Nat->Bool):List (Nat×Lp):=[(0,OS n p),(2,JO n p)]
def KF:List V->A9
 | [v]=>apB v λn p=>.br (FF n) (.leaf (.ref 0,[.row 3 1 n λk=>iV (Az p n k)])) .fail
 | _=>.fail
theorem Adj (n:Nat) (p:Nat->Bool):Kb (HT n p) [(1,iV 0)]=Ry n p 0 0 (λ_=>0) (λi=>nth (HT n p).t i):=by kernel_rfl
theorem Abf (n:Nat) (p:Nat->Bool) (h8:FF n=true) :
  (Ax (Ak tab (cxZ Gl tb0 Rb (MW n p)) Tryz.f185 [UT n p] [])).sem=some (.ref 0,[.row 3 1 n λk=>iV (Az p n k)]):=by
 have h8':n * 8 <= 140737488355328:=of_decide_eq_true h8;have hn:n <= 4611686018427387904:=by omega
 have hL:=KT Rb (MW n p);have h0:∀ L,(Hb Rb (MW n p) 0 (E9 L) (HT n p)).sem=some (F9 n p (ofNat (Ai p n)) n (CP p n)):=λL=>by
  show (A4 (E9 L) (OS n p) (n+1) (Kb (HT n p) [(1,iV 0)])).sem=_;rw [Adj,<- TZ p];exact TX L n p h8' n 0 _ (n+1) (by omega) (by omega)
 cases n with
 | zero =>rw [<- PU p 0 rfl];exact Bf (Bg hL hL) _ (Afu _ _ 0 p _ _ rfl (AA (h0 _)))
 | succ m =>
  have c0:ilt 0 (ofNat (m+1))=true:=by rw [show (0:Int)=ofNat 0 from rfl,Dv]; simp
  have e1:wr .i64 (Bw (ofNat (m+1)) 1)=ofNat m:=Pd (Nat.le_refl _) hn;have e2:toN (ofNat m)=m:=rfl;cases hs:ilt 0 (ofNat (Ai p (m+1))) with
  | false =>
   have hz:Ai p (m+1)=0:=by simpa [ilt] using hs
   have hw:=Bf (Bg hL hL) _ (Aft _ _ (m+1) p _ _ c0 hs (AA (h0 _)));rw [<- PU p (m+1) hz];exact hw
  | true =>
   have hz:0<Ai p (m+1):=by simpa [ilt] using hs
   have hb:Aj (ile 0 (wr .i64 (Bw (ofNat (m+1)) 1))) (ilt (wr .i64 (Bw (ofNat (m+1)) 1)) (ofNat (m+1)))=true:=by rw [e1]; exact Ae (Nat.lt_succ_self m)
   cases hp:p m with
   | true =>have hw:=Bf (Bg hL hL) _ (Afs _ _ (m+1) p _ _ c0 hs hb (by rw [e1,e2]; exact hp) (AA (h0 _)));rw [<- GW p (m+1) (m+1) (Nat.le_refl _) (λk hk=>by have:=AO p (show k <= m by omega); rw [Bp hp]; omega) (λk h1 h2=>by omega)];exact hw
   | false =>have h2:=λL j=>Vs L (m+1) p hn hz (m+1) j (m+2) (Nat.le_refl _) (by omega) (λk h1 h2=>by omega);rw [show dn (m+1)=ofNat m from rfl,<- e1] at h2;exact Bf (Bg (Bg hL hL) hL) _ (Afr _ _ _ (m+1) p _ (CP p (m+1)) 0 (Az p (m+1)) c0 hs hb (by rw [e1,e2]; exact hp) (AA (h0 _)) (AA (h2 _ _)))
theorem Alw:As Tryz.prog Gl 185 KF:=by
 refine Am A8 mixed Tryz.func185 (by kernel_rfl) (by kernel_rfl) λvs v h' h=>?_;unfold KF at h;split at h
 ·rename_i u
  obtain ⟨n,p,ha,h1⟩:=AaF h;obtain ⟨h8,hq⟩:=Ac h1;have:=Aa hq;simp only [Prod.mk.injEq] at this;obtain ⟨rfl,rfl⟩:=this;have hA:BC [u] [UT n p]:=λS w cs hv=>by
   obtain ⟨c,l,rfl,q1,q2⟩:=hv;exact ⟨c,l,rfl,ha S w c q1,q2⟩
  have hx:=UM CN Rb (MW n p);exact ⟨_,cxZ Gl tb0 Rb (MW n p),_,hA,rfl,hx.1,hx.2,Abf n p h8,Aw.refl _⟩
 ·cases h
theorem DZ {n:Nat}:Cs [.row 3 1 n (λ_=>iV 0)]=true:=by
 simp [Cs,LV,iV]
noncomputable def Tz:AM:=(152,BN λe=>bV (A2 e))::(153,BN λe=>bV (A7 e))::(185,KF)::[]
theorem Vi:Ar Tryz.prog Gl Tz:=.cons p60 <| .cons p61 <| .cons Alw .nil
def IC (p:Nat->Bool) (i k:Nat):Bool:=decide (k<i) && p k
theorem YI (p:Nat->Bool):IC p 0=λ_=>false:=by
 funext k;simp [IC]
theorem OH (p:Nat->Bool) (i:Nat):Bb i (λk=>bV (IC p i k)) (bV (p i))=λk=>bV (IC p (i+1) k):=by
 funext k;rw [BB,show Nat.beq k i=decide (k=i) by rw [Bool.eq_iff_iff]; simp];unfold IC;by_cases h:k=i
 ·subst h; simp
 ·by_cases h2:k<i
  ·have:k<i+1:=by omega
   simp [h,h2,this]
  ·have:¬ k<i+1:=by omega
   simp [h,h2,this]
theorem BZ {p q:Nat->Bool}:∀ k,(∀ i,i<k->q i=p i)->Ai q k=Ai p k
 | 0,_=>rfl
 | k+1,h=>by
  rw [Ai,Ai,h k (Nat.lt_succ_self k),BZ k λi hi=>h i (by omega)]
theorem MJ (p:Nat->Bool) (n:Nat):Az (IC p n) n=Az p n:=by
 have hq:∀ i,i<n->IC p n i=p i:=λi hi=>by simp [IC,hi]
 funext k;unfold Az;by_cases h:k<n
 ·rw [BZ k λi hi=>hq i (by omega),BZ n hq]
 ·simp [h]
theorem Jf {n:Nat} (h:CJ n=true):n * 8 <= 140737488355328:=of_decide_eq_true (Gu h)
def Sf (n:Nat) (f:Nat->E6):Lp:=⟨bmK 21 0 [0,3,4],2,bmK 21 0 [3],2,n+1⟩
def AbA (n:Nat) (f:Nat->E6) (i:Nat) (h:Nat->Bool) (j:Nat->V):St:=⟨jsV 21 0 j [(0,.sl 6 n (λi=>eV (f i))),(3,.ref 1),(4,nV i)],[.row 3 1 0 Ab,.row 4 1 i (λk=>bV (h k))]⟩
def Wp (n:Nat) (f:Nat->E6) (i:Nat) (h:Nat->Bool):Ex×St:=(.ex 0,⟨jsV 21 0 Ab [(3,.ref 1)],[.row 3 1 0 Ab,.row 4 1 i (λk=>bV (h k))]⟩)
noncomputable def Li (L:LT):St->T (Ex×St):=λst=>AL tab ⟨A0 Tz,L,Gl⟩ (A3 Tryz.f154 0) 0 st
section
variable (L:LT) (n:Nat) (f:Nat->E6) (i:Nat) (h:Nat->Bool)  (j:Nat->V)
include L n f i h j
theorem AiW (h0:ilt (ofNat i) (ofNat n)=false):Ay (Li L) (Sf n f) (AbA n f i h j)=some ((.ex 0),⟨jsV 21 0 Ab [(3,.ref 1)],[.row 3 1 0 Ab,.row 4 1 i (λk=>bV (h k))]⟩):=by
 exact Ad (ks:=[kn h0]) (by kernel_rfl)
theorem AiV (h0:ilt (ofNat i) (ofNat n)=true) (h1:Aj (ile 0 (ofNat i)) (ilt (ofNat i) (ofNat n))=true) (h2:Cp i 1 1=true):Ay (Li L) (Sf n f) (AbA n f i h j)=some (.nm,⟨jsV 21 0 Ab [(0,.sl 6 n (λi=>eV (f i))),(3,.ref 1),(4,iV (wr .i64 (Ah (ofNat i) 1)))],[.row 3 1 0 Ab,.row 4 1 (B1 i 1) (Bb i (λk=>bV (h k)) (bV (A2 (f i))))]⟩):=by
 exact Ad (ks:=[kn h0,kn h1,kn h2]) (by kernel_rfl)
end
def SK (n:Nat) (f:Nat->E6) :St:=⟨jsV 21 0 (λ_=>AI) [(0,.sl 6 n (λi=>eV (f i))),(2,.ref 0),(3,.ref 1),(4,iV 0)],[.row 3 1 0 Ab,.row 4 1 0 Ab]⟩
theorem Alb (L:LT) (p0:PT) (n:Nat) (f:Nat->E6) (q:Nat->Bool) (h0:FF n=true) (h10:Cs [.row 3 1 n (λ_=>iV 0)]=true) (hp0:p0 (Li (onP 0 p0 (Wp n f n q) L)) (SK n f)=true):(Ax (Ak tab ⟨A0 Tz,onP 0 p0 (Wp n f n q) L,Gl⟩ Tryz.f154 [AC n f] [])).sem=some ((.ref 0),[.row 3 1 n (λk=>iV (Az q n k))]):=by
 exact Ad (ks:=[kn hp0,kL n,kn h0,kn h10]) (by kernel_rfl)
theorem AdQ (L:LT) (n:Nat) (f:Nat->E6) (h8:n * 8 <= 140737488355328):∀ (e i:Nat) (j:Nat->V) (q:Nat),n=i+e->e<q ->
  (A4 (Li L) (Sf n f) q (AbA n f i (IC (λk=>A2 (f k)) i) j)).sem=some (Wp n f n (IC (λk=>A2 (f k)) n))
 | 0,i,j,q+1,h,_=>by
  have:n=i:=by omega
  subst this;exact Ag (AiW L n f _ _ j (Au (Nat.le_refl _)))
 | e+1,i,j,q+1,h,h2=>by
  have hl:i<n:=by omega
  have ha:Cp i 1 1=true:=Gc (by omega);rw [Ag (AiV L n f i (IC (λk=>A2 (f k)) i) j (ofNat_lt hl) (Ae hl) ha),AZ,A1 hl (by omega)];have:=OH (λk=>A2 (f k)) i;rw [this];exact AdQ L n f h8 e (i+1) Ab q (by omega) (by omega)
def AaY:List (Nat×List (Nat×V)):=[(0,[(1,bV false)])]
theorem Ah4 (n:Nat) (f:Nat->E6):Kb (SK n f) [(1,bV false)]=AbA n f 0 (λ_=>false) (λi=>nth (SK n f).t i):=by kernel_rfl
def PW:List V->A9:=GK λn f=>.br (CJ n) (.leaf (.ref 0,[.row 3 1 n λk=>iV (Az (λk=>A2 (f k)) n k)])) .fail
theorem p94:As Tryz.prog Gl 154 PW:=by
 refine Am A8 mixed Tryz.func154 (by kernel_rfl) (by kernel_rfl) λvs v h' h=>?_;obtain ⟨n,f,ha,h1⟩:=Dd h;obtain ⟨hn,hq⟩:=Ac h1;have:=Aa hq;simp only [Prod.mk.injEq] at this;obtain ⟨rfl,rfl⟩:=this;have hx:=UM Vi AaY [(0,Sf n f)];have hL:=KT AaY [(0,Sf n f)];have h0:∀ L,(Hb AaY [(0,Sf n f)] 0 (Li L) (SK n f)).sem=some (Wp n f n (IC (λk=>A2 (f k)) n)):=λL=>by
  show (A4 (Li L) (Sf n f) (n+1) (Kb (SK n f) [(1,bV false)])).sem=_;rw [Ah4,<- YI (λk=>A2 (f k))];exact AdQ L n f (Jf hn) n 0 _ (n+1) (by omega) (by omega)
 have hw:=Bf (Bg hL hL) _ (Alb _ _ n f _ (Gu hn) DZ (AA (h0 _)));rw [MJ (λk=>A2 (f k)) n] at hw;exact ⟨_,cxZ Gl Tz AaY [(0,Sf n f)],_,ha,rfl,hx.1,hx.2,hw,Aw.refl _⟩
def Se (n:Nat) (f:Nat->E6):Lp:=⟨bmK 21 0 [0,3,4],2,bmK 21 0 [3],2,n+1⟩
def Ab9 (n:Nat) (f:Nat->E6) (i:Nat) (h:Nat->Bool) (j:Nat->V):St:=⟨jsV 21 0 j [(0,.sl 6 n (λi=>eV (f i))),(3,.ref 1),(4,nV i)],[.row 3 1 0 Ab,.row 4 1 i (λk=>bV (h k))]⟩
def Wo (n:Nat) (f:Nat->E6) (i:Nat) (h:Nat->Bool):Ex×St:=(.ex 0,⟨jsV 21 0 Ab [(3,.ref 1)],[.row 3 1 0 Ab,.row 4 1 i (λk=>bV (h k))]⟩)
noncomputable def Lh (L:LT):St->T (Ex×St):=λst=>AL tab ⟨A0 Tz,L,Gl⟩ (A3 Tryz.f155 0) 0 st
section
variable (L:LT) (n:Nat) (f:Nat->E6) (i:Nat) (h:Nat->Bool)  (j:Nat->V)
include L n f i h j
theorem AiU (h0:ilt (ofNat i) (ofNat n)=false):Ay (Lh L) (Se n f) (Ab9 n f i h j)=some ((.ex 0),⟨jsV 21 0 Ab [(3,.ref 1)],[.row 3 1 0 Ab,.row 4 1 i (λk=>bV (h k))]⟩):=by
 exact Ad (ks:=[kn h0]) (by kernel_rfl)
theorem AiT (h0:ilt (ofNat i) (ofNat n)=true) (h1:Aj (ile 0 (ofNat i)) (ilt (ofNat i) (ofNat n))=true) (h2:Cp i 1 1=true):Ay (Lh L) (Se n f) (Ab9 n f i h j)=some (.nm,⟨jsV 21 0 Ab [(0,.sl 6 n (λi=>eV (f i))),(3,.ref 1),(4,iV (wr .i64 (Ah (ofNat i) 1)))],[.row 3 1 0 Ab,.row 4 1 (B1 i 1) (Bb i (λk=>bV (h k)) (bV (A7 (f i))))]⟩):=by
 exact Ad (ks:=[kn h0,kn h1,kn h2]) (by kernel_rfl)
end
def SJ (n:Nat) (f:Nat->E6) :St:=⟨jsV 21 0 (λ_=>AI) [(0,.sl 6 n (λi=>eV (f i))),(2,.ref 0),(3,.ref 1),(4,iV 0)],[.row 3 1 0 Ab,.row 4 1 0 Ab]⟩
theorem Ala (L:LT) (p0:PT) (n:Nat) (f:Nat->E6) (q:Nat->Bool) (h0:FF n=true) (h10:Cs [.row 3 1 n (λ_=>iV 0)]=true) (hp0:p0 (Lh (onP 0 p0 (Wo n f n q) L)) (SJ n f)=true):(Ax (Ak tab ⟨A0 Tz,onP 0 p0 (Wo n f n q) L,Gl⟩ Tryz.f155 [AC n f] [])).sem=some ((.ref 0),[.row 3 1 n (λk=>iV (Az q n k))]):=by
 exact Ad (ks:=[kn hp0,kL n,kn h0,kn h10]) (by kernel_rfl)
theorem AdP (L:LT) (n:Nat) (f:Nat->E6) (h8:n * 8 <= 140737488355328):∀ (e i:Nat) (j:Nat->V) (q:Nat),n=i+e->e<q ->
  (A4 (Lh L) (Se n f) q (Ab9 n f i (IC (λk=>A7 (f k)) i) j)).sem=some (Wo n f n (IC (λk=>A7 (f k)) n))
 | 0,i,j,q+1,h,_=>by
  have:n=i:=by omega
  subst this;exact Ag (AiU L n f _ _ j (Au (Nat.le_refl _)))
 | e+1,i,j,q+1,h,h2=>by
  have hl:i<n:=by omega
  have ha:Cp i 1 1=true:=Gc (by omega);rw [Ag (AiT L n f i (IC (λk=>A7 (f k)) i) j (ofNat_lt hl) (Ae hl) ha),AZ,A1 hl (by omega)];have:=OH (λk=>A7 (f k)) i;rw [this];exact AdP L n f h8 e (i+1) Ab q (by omega) (by omega)
def AaX:List (Nat×List (Nat×V)):=[(0,[(1,bV false)])]
theorem Ah3 (n:Nat) (f:Nat->E6):Kb (SJ n f) [(1,bV false)]=Ab9 n f 0 (λ_=>false) (λi=>nth (SJ n f).t i):=by kernel_rfl
def PV:List V->A9:=GK λn f=>.br (CJ n) (.leaf (.ref 0,[.row 3 1 n λk=>iV (Az (λk=>A7 (f k)) n k)])) .fail
theorem p95:As Tryz.prog Gl 155 PV:=by
 refine Am A8 mixed Tryz.func155 (by kernel_rfl) (by kernel_rfl) λvs v h' h=>?_;obtain ⟨n,f,ha,h1⟩:=Dd h;obtain ⟨hn,hq⟩:=Ac h1;have:=Aa hq;simp only [Prod.mk.injEq] at this;obtain ⟨rfl,rfl⟩:=this;have hx:=UM Vi AaX [(0,Se n f)];have hL:=KT AaX [(0,Se n f)];have h0:∀ L,(Hb AaX [(0,Se n f)] 0 (Lh L) (SJ n f)).sem=some (Wo n f n (IC (λk=>A7 (f k)) n)):=λL=>by
  show (A4 (Lh L) (Se n f) (n+1) (Kb (SJ n f) [(1,bV false)])).sem=_;rw [Ah3,<- YI (λk=>A7 (f k))];exact AdP L n f (Jf hn) n 0 _ (n+1) (by omega) (by omega)
 have hw:=Bf (Bg hL hL) _ (Ala _ _ n f _ (Gu hn) DZ (AA (h0 _)));rw [MJ (λk=>A7 (f k)) n] at hw;exact ⟨_,cxZ Gl Tz AaX [(0,Se n f)],_,ha,rfl,hx.1,hx.2,hw,Aw.refl _⟩
noncomputable def tb53:AM:=(79,AjA)::(154,PW)::(155,PV)::[]
theorem tb53_ok:Ar Tryz.prog Gl tb53:=.cons p98 <| .cons p94 <| .cons p95 .nil
def JI (g:Nat->(Nat->E6)->Nat->Int):List V->A9:=GK λn f=>.br (CJ n) (match Ef n f with
 | true=>.leaf (.tup [.ref 0,iV 0],[.row 3 1 n λk=>iV (g n f k)])
 | false=>.leaf (.tup [.ref 0,iV 30],[.row 3 1 0 λ_=>.und])) .fail
theorem p53:As Tryz.prog Gl 109 (JI λn f=>Az (λk=>A2 (f k)) n):=by
 refine Am A8 mixed Tryz.func109 (by kernel_rfl) (by kernel_rfl) λvs v h' h=>?_;obtain ⟨n,f,ha,h1⟩:=Dd h;obtain ⟨hn,hq⟩:=Ac h1;have hx:=Bi tb53_ok [];have hs:Ao n=true:=ZZ (Gu hn);cases hm:Ef n f with
 | true =>rw [hm] at hq;have:=Aa hq;simp only [Prod.mk.injEq] at this;obtain ⟨rfl,rfl⟩:=this;exact ⟨_,Bd Gl tb53 [],_,ha,rfl,hx.1,hx.2,Ad (ks:=[kL n,kn hs,kN (kn hm),kL n,kn hn]) (by kernel_rfl)/-W:w53t-/,Aw.refl _⟩
 | false =>rw [hm] at hq;have:=Aa hq;simp only [Prod.mk.injEq] at this;obtain ⟨rfl,rfl⟩:=this;exact ⟨_,Bd Gl tb53 [],_,ha,rfl,hx.1,hx.2,Ad (ks:=[kL n,kn hs,kN (kn hm)]) (by kernel_rfl)/-W:w53f-/,Aw.refl _⟩
theorem p54:As Tryz.prog Gl 110 (JI λn f=>Az (λk=>A7 (f k)) n):=by
 refine Am A8 mixed Tryz.func110 (by kernel_rfl) (by kernel_rfl) λvs v h' h=>?_;obtain ⟨n,f,ha,h1⟩:=Dd h;obtain ⟨hn,hq⟩:=Ac h1;have hx:=Bi tb53_ok [];have hs:Ao n=true:=ZZ (Gu hn);cases hm:Ef n f with
 | true =>rw [hm] at hq;have:=Aa hq;simp only [Prod.mk.injEq] at this;obtain ⟨rfl,rfl⟩:=this;exact ⟨_,Bd Gl tb53 [],_,ha,rfl,hx.1,hx.2,Ad (ks:=[kL n,kn hs,kN (kn hm),kL n,kn hn]) (by kernel_rfl)/-W:w54t-/,Aw.refl _⟩
 | false =>rw [hm] at hq;have:=Aa hq;simp only [Prod.mk.injEq] at this;obtain ⟨rfl,rfl⟩:=this;exact ⟨_,Bd Gl tb53 [],_,ha,rfl,hx.1,hx.2,Ad (ks:=[kL n,kn hs,kN (kn hm)]) (by kernel_rfl)/-W:w54f-/,Aw.refl _⟩
end Go.Proofs.YtkbafjceglhjhaaGreatDoor.Ed
namespace Go.Proofs.YtkbafjceglhjhaaGreatDoor.Sh
open Go.Sy Ed
open Int (ofNat)
theorem AfE (e:E6):(Ax (Ak tab (Bd Gl [] []) Tryz.f177 [eV e] [])).sem=(sel (ieq (e).kind 1) (sel (ieq (e).kind 1) (sel (ieq (e).kind 1) (sel (ieq (e).kind 1) (some ((bV true),[])) none) none) none) (sel (ieq (e).kind 1) (sel (ieq (e).kind 1) (sel (ieq (e).kind 1) (some ((bV true),[])) none) none) (sel (ieq (e).kind 1) (sel (ieq (e).kind 1) (some ((bV true),[])) none) (sel (ieq (e).kind 1) (some ((bV true),[])) (sel (ieq (e).kind 2) (sel (ieq (e).kind 2) (sel (ieq (e).kind 2) (sel (ieq (e).kind 2) (some ((bV true),[])) (some (AI,[]))) none) none) (sel (ieq (e).kind 2) (sel (ieq (e).kind 2) (sel (ieq (e).kind 2) (some ((bV true),[])) (some (AI,[]))) none) (sel (ieq (e).kind 2) (sel (ieq (e).kind 2) (some ((bV true),[])) (some (AI,[]))) (sel (ieq (e).kind 2) (some ((bV true),[])) (some ((bV (ieq (e).kind 3)),[])))))))))):=by kernel_rfl
theorem p91:As Tryz.prog Gl 177 (BN λe=>bV (B8 e)):=by
 refine As.congr (AG A8 mixed Tryz.func177 (by kernel_rfl) (by kernel_rfl) (Γ:=Bd Gl [] []) (Bi Ar.nil _)) λvs r h=>?_;obtain ⟨e,rfl,rfl⟩:=BS h;refine (AfE e).trans ?_;rw [NI];cases ieq e.kind 1 <;> cases ieq e.kind 2 <;> cases ieq e.kind 3 <;> rfl
noncomputable def Yk:AM:=(177,BN λe=>bV (B8 e))::[]
theorem Vm:Ar Tryz.prog Gl Yk:=.cons p91 .nil
theorem AfK (e:E6):(Ax (Ak tab (Bd Gl Yk []) Tryz.f139 [eV e] [])).sem=(sel (B8 e) (sel (B8 e) (sel (B8 e) (some ((bV (e).ext),[])) (some ((bV false),[]))) (sel (B8 e) (some (AI,[])) (some ((bV false),[])))) (sel (B8 e) none (sel (B8 e) (some (AI,[])) (some ((bV false),[]))))):=by kernel_rfl
theorem p52:As Tryz.prog Gl 139 (BN λe=>bV (A2 e)):=by
 refine As.congr (AG A8 mixed Tryz.func139 (by kernel_rfl) (by kernel_rfl) (Γ:=Bd Gl Yk []) (Bi Vm _)) λvs r h=>?_;obtain ⟨e,rfl,rfl⟩:=BS h;refine (AfK e).trans ?_;unfold A2;cases B8 e <;> rfl
theorem AfJ (e:E6):(Ax (Ak tab (Bd Gl Yk []) Tryz.f141 [eV e] [])).sem=(sel (AN (B8 e)) (sel (AN (B8 e)) (sel (AN (B8 e)) (sel (AN (B8 e)) (some ((bV (AN (e).same)),[])) (some ((bV false),[]))) (sel (AN (B8 e)) (some (AI,[])) (some ((bV false),[])))) (sel (AN (B8 e)) none (sel (AN (B8 e)) (some (AI,[])) (some ((bV false),[]))))) (sel (AN (B8 e)) none (sel (AN (B8 e)) none (sel (AN (B8 e)) (some (AI,[])) (some ((bV false),[])))))):=by kernel_rfl
theorem p54:As Tryz.prog Gl 141 (BN λe=>bV (A7 e)):=by
 refine As.congr (AG A8 mixed Tryz.func141 (by kernel_rfl) (by kernel_rfl) (Γ:=Bd Gl Yk []) (Bi Vm _)) λvs r h=>?_;obtain ⟨e,rfl,rfl⟩:=BS h;refine (AfJ e).trans ?_;unfold A7;cases B8 e <;> rfl
noncomputable def LS (n:Nat) (f:Nat->Int) (x:Int):Int:=match (List.range n).find? λi=>ieq x (f i) with
 | some i=>ofNat i
 | none=>-1
theorem OY {n:Nat} {f:Nat->Int} {x:Int} {i:Nat} (hi:i<n) (h:ieq x (f i)=true) (hb:∀ k,k<i->ieq x (f k)=false):LS n f x=ofNat i:=by
 unfold LS;have:(List.range n).find? (λi=>ieq x (f i))=some i:=by
  rw [List.find?_range_eq_some];exact ⟨h,by simpa using hi,λj hj=>by rw [hb j hj]; rfl⟩
 rw [this]
theorem Sz {n:Nat} {f:Nat->Int} {x:Int} (h:∀ k,k<n->ieq x (f k)=false):LS n f x = -1:=by
 unfold LS;have:(List.range n).find? (λi=>ieq x (f i))=none:=by
  rw [List.find?_eq_none];intro k hk;rw [h k (by simpa using hk)];simp
 rw [this]
def MY (n:Nat) (f:Nat->Int) (x:Int):Lp:=⟨bmK 19 0 [0,1,4,7,8],0,bmK 19 0 [4],0,n+1⟩
def P9 (n:Nat) (f:Nat->Int) (x:Int) (b:Nat) (j:Nat->V):St:=⟨jsV 19 0 j [(0,.sl 1 n λk=>iV (f k)),(1,iV x),(4,iV 0),(7,nV n),(8,nV b)],[]⟩
def Wq (n:Nat) (f:Nat->Int) (x:Int) (b:Nat):Ex×St:=(.rt,⟨jsV 19 0 Ab [(4,nV b)],[]⟩)
def Wr (n:Nat) (f:Nat->Int) (x:Int) (b:Nat):Ex×St:=(.ex 0,⟨jsV 19 0 Ab [(4,iV 0)],[]⟩)
noncomputable def Ho (L:LT):St->T (Ex×St):=λst=>AL tab ⟨A0 tb0,L,Gl⟩ (A3 Tryz.f178 0) 0 st
section
variable (L:LT) (n:Nat) (f:Nat->Int) (x:Int) (b:Nat)  (j:Nat->V)
include L n f x b j
theorem AiE (h0:ilt (ofNat b) (ofNat n)=true) (h11:ile 0 (ofNat b)=true) (h1:ieq x (f b)=false):Ay (Ho L) (MY n f x) (P9 n f x b j)=some (.nm,⟨jsV 19 0 Ab [(0,.sl 1 n (λk=>iV (f k))),(1,iV x),(4,iV 0),(7,nV n),(8,iV (wr .i64 (Ah (ofNat b) 1)))],[]⟩):=by
 exact Ad (ks:=[kn h0,kA (kn h11) (kn h0),kn h1]) (by kernel_rfl)
theorem AiD (h0:ilt (ofNat b) (ofNat n)=true) (h11:ile 0 (ofNat b)=true) (h1:ieq x (f b)=true):Ay (Ho L) (MY n f x) (P9 n f x b j)=some (.rt,⟨jsV 19 0 Ab [(4,nV b)],[]⟩):=by
 exact Ad (ks:=[kn h0,kA (kn h11) (kn h0),kn h1]) (by kernel_rfl)
theorem AiF (h0:ilt (ofNat b) (ofNat n)=false):Ay (Ho L) (MY n f x) (P9 n f x b j)=some ((.ex 0),⟨jsV 19 0 Ab [(4,iV 0)],[]⟩):=by
 exact Ad (ks:=[kn h0]) (by kernel_rfl)
end
def Ahu (n:Nat) (f:Nat->Int) (x:Int) :Nat->V:=lkV AI [(6,.sl 1 n (λk=>iV (f k)))]
theorem Aia (L:LT) (p0:PT) (n:Nat) (f:Nat->Int) (x:Int) (b:Nat)  (hp0:p0 (Ho (onP 0 p0 (Wq n f x b) L)) (P9 n f x 0 (Ahu n f x ))=true):(Ax (Ak tab ⟨A0 tb0,onP 0 p0 (Wq n f x b) L,Gl⟩ Tryz.f178 [.sl 1 n λk=>iV (f k),iV x] [])).sem=some ((nV b),[]):=by
 exact Ad (ks:=[kn hp0]) (by kernel_rfl)
theorem Aib (L:LT) (p0:PT) (n:Nat) (f:Nat->Int) (x:Int)  (hp0:p0 (Ho (onP 0 p0 (Wr n f x 0) L)) (P9 n f x 0 (Ahu n f x ))=true):(Ax (Ak tab ⟨A0 tb0,onP 0 p0 (Wr n f x 0) L,Gl⟩ Tryz.f178 [.sl 1 n λk=>iV (f k),iV x] [])).sem=some ((iV (-1)),[]):=by
 exact Ad (ks:=[kn hp0]) (by kernel_rfl)
theorem AdR (L:LT) (n:Nat) (f:Nat->Int) (x:Int) (hn:n <= 4611686018427387904):∀ (e i:Nat) (j:Nat->V) (q:Nat),n=i+e->e<q->(∀ k,k<i->ieq x (f k)=false) ->
  ((A4 (Ho L) (MY n f x) q (P9 n f x i j)).sem=some (Wr n f x 0)∧LS n f x = -1) ∨ ∃ b,(A4 (Ho L) (MY n f x) q (P9 n f x i j)).sem=some (Wq n f x b)∧LS n f x=ofNat b
 | 0,i,j,q+1,h,_,hb=>by
  have:n=i:=by omega
  subst this;exact .inl ⟨Ag (AiF L n f x n j (Au (Nat.le_refl _))),Sz hb⟩
 | e+1,i,j,q+1,h,h2,hb=>by
  have hl:i<n:=by omega
  cases hp:ieq x (f i) with
  | true =>exact .inr ⟨i,Ag (AiD L n f x i j (ofNat_lt hl) (Cm i) hp),OY hl hp hb⟩
  | false =>
   rw [Ag (AiE L n f x i j (ofNat_lt hl) (Cm i) hp),AZ,A1 hl hn];refine AdR L n f x hn e (i+1) Ab q (by omega) (by omega) λk hk=>?_;by_cases hki:k=i
   ·rw [hki]; exact hp
   ·exact hb k (by omega)
noncomputable def Uz:List V->A9
 | [v,.val (.int .i64 x)]=>apI v λn f=>.br (FF n) (.leaf (iV (LS n f x),[])) .fail
 | _=>.fail
theorem p92:As Tryz.prog Gl 178 Uz:=by
 refine Am A8 mixed Tryz.func178 (by kernel_rfl) (by kernel_rfl) λvs v h' h=>?_;unfold Uz at h;split at h
 ·rename_i u x
  obtain ⟨n,f,ha,h1⟩:=FB h;obtain ⟨h8,hq⟩:=Ac h1;have:=Aa hq;simp only [Prod.mk.injEq] at this;obtain ⟨rfl,rfl⟩:=this;have h8':n * 8 <= 140737488355328:=of_decide_eq_true h8;have hA:BC [u,iV x] [EJ n f,iV x]:=λS w cs hv=>by
   obtain ⟨c,l,rfl,q1,q2⟩:=hv;exact ⟨c,l,rfl,ha S w c q1,q2⟩
  have hx:=Bi CN [(0,MY n f x)] (G:=Gl);have hL:=Bh [(0,MY n f x)];refine ⟨_,Bd Gl tb0 [(0,MY n f x)],_,hA,rfl,hx.1,hx.2,?_,Aw.refl _⟩;have h0:=λL j=>AdR L n f x (by omega) n 0 j (n+1) (by omega) (by omega) (λk hk=>absurd hk (Nat.not_lt_zero _));rcases h0 (Cv [(0,MY n f x)]) (Ahu n f x) with ⟨_,h5⟩ | ⟨b,_,h5⟩
  ·have h6:∀ L j,(A4 (Ho L) (MY n f x) (n+1) (P9 n f x 0 j)).sem=some (Wr n f x 0):=λL j=>by
    rcases h0 L j with ⟨h,_⟩ | ⟨b,_,h⟩
    ·exact h
    ·rw [h5] at h
     cases h
   rw [h5];exact Bf (Bg hL hL) _ (Aib _ _ n f x (AA (h6 _ _)))
  ·have h6:∀ L j,(A4 (Ho L) (MY n f x) (n+1) (P9 n f x 0 j)).sem=some (Wq n f x b):=λL j=>by
    rcases h0 L j with ⟨_,h⟩ | ⟨b',h,h'⟩
    ·rw [h5] at h
     cases h
    ·rw [h5] at h'
     cases h';exact h
   rw [h5];exact Bf (Bg hL hL) _ (Aia _ _ n f x b (AA (h6 _ _)))
 ·cases h
end Go.Proofs.YtkbafjceglhjhaaGreatDoor.Sh
namespace Go.Proofs.YtkbafjceglhjhaaGreatDoor.Sh
open Go.Sy Ed
inductive Begin (p:Nat->Bool) (n:Nat):Nat->Prop
 | none:(∀ k,k<n->p k=false)->Begin p n 0
 | last:0<n->p (n-1)=true->Begin p n 0
 | first {z:Nat}:0<z->z<n->p (z-1)=true->(∀ k,k<z-1->p k=false)->p (n-1)=false->Begin p n z
theorem Dc {p:Nat->Bool}:∀ {k:Nat},(∀ i,i<k->p i=false)->Ai p k=0
 | 0,_=>rfl
 | k+1,h=>by rw [B6 (h k (Nat.lt_succ_self k)),Dc λi hi=>h i (by omega)]
theorem GB (p:Nat->Bool) (k:Nat):Ai p (k+1)=Ai p k ∨ Ai p (k+1)=Ai p k+1:=by
 cases h:p k with
 | true=>exact .inr (Bp h)
 | false=>exact .inl (B6 h)
def Fx (p:Nat->Bool) (n z t:Nat):Bool:=p ((z+t) % n)
theorem GA {p:Nat->Bool} {n z:Nat}:∀ {t:Nat},z+t <= n->Ai (Fx p n z) t+Ai p z=Ai p (z+t)
 | 0,_=>by simp [Ai]
 | t+1,h=>by
  have ih:=GA (p:=p) (n:=n) (z:=z) (t:=t) (by omega);have he:Fx p n z t=p (z+t):=by unfold Fx; rw [Nat.mod_eq_of_lt (by omega)]
  rw [show z+(t+1)=z+t+1 by omega];cases hp:p (z+t) with
  | true=>rw [Bp (he.trans hp),Bp hp]; omega
  | false=>rw [B6 (he.trans hp),B6 hp]; exact ih
theorem Pj {p:Nat->Bool} {n z:Nat} (hz:z <= n):∀ {i:Nat},i <= z->Ai (Fx p n z) (n-z+i)+Ai p z=Ai p n+Ai p i
 | 0,_=>by
  have:=GA (p:=p) (n:=n) (z:=z) (t:=n-z) (by omega);rw [show z+(n-z)=n by omega] at this;simpa [Ai] using this
 | i+1,h=>by
  have ih:=Pj (p:=p) (n:=n) (z:=z) hz (i:=i) (by omega);have he:Fx p n z (n-z+i)=p i:=by
   unfold Fx;rw [show z+(n-z+i)=i+n by omega,Nat.add_mod_right,Nat.mod_eq_of_lt (by omega)]
  rw [show n-z+(i+1)=n-z+i+1 by omega];cases hp:p i with
  | true=>rw [Bp (he.trans hp),Bp hp]; omega
  | false=>rw [B6 (he.trans hp),B6 hp]; exact ih
def posN (n z i:Nat):Nat:=(i+(n-z)) % n
def AX (p:Nat->Bool) (n k:Nat):Nat:=if Ai p k=Ai p n then 0 else Ai p k
theorem Fe {p:Nat->Bool} {n k:Nat} (h:k<n):Az p n k=Int.ofNat (AX p n k):=by
 unfold Az AX;rw [show decide (k<n)=true by simpa using h];simp only [cond_true];by_cases he:Ai p k=Ai p n
 ·simp [he]
 ·simp [he]
def snN (p:Nat->Bool) (n z v:Nat):Nat:=if z=0 then v else if v=0 then Ai p n-1 else v-1
theorem AbU {p:Nat->Bool} {n z:Nat} (hb:Begin p n z) {i:Nat} (hi:i<n):Ai (Fx p n z) (posN n z i)=snN p n z (AX p n i):=by
 have hmi:=AO p (show i <= n by omega);cases hb with
 | none h0 =>
  have h1:Ai p n=0:=Dc h0;have h2:posN n 0 i=i:=by unfold posN; rw [Nat.sub_zero,Nat.add_mod_right,Nat.mod_eq_of_lt hi]
  have h3:=GA (p:=p) (n:=n) (z:=0) (t:=i) (by omega);rw [Nat.zero_add] at h3;rw [h2];unfold snN AX;rw [if_pos rfl,h1];simp [Ai] at h3;rw [h3];split <;> omega
 | last hn h0 =>
  have h2:posN n 0 i=i:=by unfold posN; rw [Nat.sub_zero,Nat.add_mod_right,Nat.mod_eq_of_lt hi]
  have h3:=GA (p:=p) (n:=n) (z:=0) (t:=i) (by omega);rw [Nat.zero_add] at h3;have h4:Ai p n=Ai p (n-1)+1:=by
   have:=Bp h0;rwa [show n-1+1=n by omega] at this
  have h5:=AO p (show i <= n-1 by omega);rw [h2];unfold snN AX;rw [if_pos rfl];simp [Ai] at h3;rw [h3,if_neg (by omega)]
 | first hz hzn h0 h1 h2 =>
  have c0:Ai p (z-1)=0:=Dc h1;have c1:Ai p z=1:=by
   have:=Bp h0;rwa [show z-1+1=z by omega,c0] at this
  have hK:=AO p (show z <= n by omega);unfold snN AX;rw [if_neg (by omega)];rcases Nat.lt_or_ge i z with hc | hc
  ·have e1:posN n z i=n-z+i:=by unfold posN; rw [Nat.mod_eq_of_lt (by omega)]; omega
   have e2:=Pj (p:=p) (n:=n) (z:=z) (by omega) (i:=i) (by omega);have e3:Ai p i=0:=Dc λk hk=>h1 k (by omega);have e4:(if Ai p i=Ai p n then 0 else Ai p i)=0:=by split <;> omega
   rw [e1,if_pos e4];omega
  ·have e1:posN n z i=i-z:=by unfold posN; rw [show i+(n-z)=i-z+n by omega,Nat.add_mod_right,Nat.mod_eq_of_lt (by omega)]
   have e2:=GA (p:=p) (n:=n) (z:=z) (t:=i-z) (by omega);rw [show z+(i-z)=i by omega] at e2;have e3:=AO p hc;rw [e1];by_cases he:Ai p i=Ai p n
   ·rw [if_pos he,if_pos rfl]; omega
   ·rw [if_neg he,if_neg (by omega:¬ Ai p i=0)]; omega
theorem Yw {p:Nat->Bool} {n z u v:Nat} (hu:u <= v) (hv:v=0 ∨ v<Ai p n) (h:snN p n z u=snN p n z v):u=v:=by
 unfold snN at h;split at h
 ·exact h
 ·split at h <;> split at h <;> omega
def rN (p:Nat->Bool) (n:Nat):Nat->Nat
 | 0=>0
 | b+1=>if AX p n b<rN p n b then rN p n b else rN p n b+1
theorem JJ {p:Nat->Bool} {n k:Nat} (h:k <= n):AX p n k=0 ∨ AX p n k<Ai p n:=by
 have:=AO p h;unfold AX;split
 ·exact .inl rfl
 ·exact .inr (by omega)
theorem YU (p:Nat->Bool) (n:Nat):AX p n 0=0:=by
 have h:Ai p 0=0:=rfl;unfold AX;split
 ·rfl
 ·exact h
theorem YP (p:Nat->Bool) (n:Nat):∀ b,b<n->rN p n (b+1)=if Ai p b=Ai p n then max (Ai p n) 1 else Ai p b+1
 | 0,h=>by
  have h1:rN p n (0+1)=1:=by
   rw [rN,YU];simp [rN]
  have h2:Ai p 0=0:=rfl;rw [h1,h2];split <;> omega
 | b+1,h=>by
  have ih:=YP p n b (by omega);have h1:=AO p (show b+1 <= n by omega);have h2:=AO p (show b <= n by omega);have h3:=AO p (show b <= b+1 by omega);have h4:=GB p b;rw [rN,ih];unfold AX;by_cases e1:Ai p (b+1)=Ai p n
  ·rw [if_pos e1,if_pos e1]
   by_cases e2:Ai p b=Ai p n
   ·rw [if_pos e2,if_pos (by omega)]
   ·rw [if_neg e2,if_pos (by omega)]; omega
  ·rw [if_neg e1,if_neg e1]
   have e2:¬ Ai p b=Ai p n:=by omega
   rw [if_neg e2];split <;> omega
theorem Md (p:Nat->Bool) (n:Nat):∀ b,b<n->AX p n b <= rN p n b
 | 0,h=>by
  rw [YU];exact Nat.zero_le _
 | b+1,h=>by
  rw [YP p n b (by omega)];have h1:=AO p (show b+1 <= n by omega);have h4:=GB p b;have h3:=AO p (show b <= b+1 by omega);unfold AX;split
  ·omega
  ·split <;> omega
theorem RL (p:Nat->Bool) (n:Nat):∀ b,rN p n b <= b
 | 0=>Nat.le_refl _
 | b+1=>by
  have:=RL p n b;simp only [rN];split <;> omega
theorem AdW (p:Nat->Bool) (n:Nat):∀ b,b <= n->∀ v,v<rN p n b->v=0 ∨ v<Ai p n
 | 0,_,v,h=>by simp [rN] at h
 | b+1,hb,v,h=>by
  have ih:=AdW p n b (by omega) v;simp only [rN] at h;split at h
  ·exact ih h
  ·rename_i h2
   have h3:=Md p n b (by omega);by_cases hv:v<rN p n b
   ·exact ih hv
   ·have:v=AX p n b:=by omega
    rw [this];exact JJ (by omega)
end Go.Proofs.YtkbafjceglhjhaaGreatDoor.Sh
