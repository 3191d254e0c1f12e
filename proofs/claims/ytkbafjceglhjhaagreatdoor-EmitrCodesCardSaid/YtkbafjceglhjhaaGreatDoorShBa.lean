/-
  The document's parts, threads, locations: the part of each edge. No conditions.
-/
import Derived.Test.YtkbafjceglhjhaaGreatDoorCyO
namespace Go.Proofs.YtkbafjceglhjhaaGreatDoor.Ed
open Go.Sy
set_option maxHeartbeats 4000000
open Int (ofNat)
def Qs (n:Nat) (p:Nat->Bool):Lp:=⟨bmK 57 0 [0,3,4,5],2,bmK 57 0 [0,3,4],2,n+1⟩
def Tb (n:Nat) (p:Nat->Bool) (s:Int) (i:Nat) (h:Nat->Int) (j:Nat->V):St:=⟨jsV 57 0 j [(0,.sl 1 n (λk=>bV (p k))),(3,.ref 1),(4,iV s),(5,nV i)],[.row 3 1 0 Ab,.row 3 1 i (λk=>iV (h k))]⟩
def Gk (n:Nat) (p:Nat->Bool) (s:Int) (i:Nat) (h:Nat->Int):Ex×St:=(.ex 0,⟨jsV 57 0 Ab [(0,.sl 1 n (λk=>bV (p k))),(3,.ref 1),(4,iV s)],[.row 3 1 0 Ab,.row 3 1 i (λk=>iV (h k))]⟩)
noncomputable def ET (L:LT):St->T (Ex×St):=λst=>A8 tab ⟨Ax tb0,L,Gl⟩ (As Tryz.f185 0) 0 st
section
variable (L:LT) (n:Nat) (p:Nat->Bool) (s:Int) (i:Nat) (h:Nat->Int)  (j:Nat->V)
include L n p s i h j
theorem Ajv (h0:ilt (ofNat i) (ofNat n)=false):Ay (ET L) (Qs n p) (Tb n p s i h j)=some ((.ex 0),⟨jsV 57 0 Ab [(0,.sl 1 n (λk=>bV (p k))),(3,.ref 1),(4,iV s)],[.row 3 1 0 Ab,.row 3 1 i (λk=>iV (h k))]⟩):=by
 exact Ad (ks:=[kn h0]) (by kernel_rfl)
theorem Ajt (h0:ilt (ofNat i) (ofNat n)=true) (h2:Bp i 1 8=true) (h1:Aj (ile 0 (ofNat i)) (ilt (ofNat i) (ofNat n))=true) (h3:p i=true):Ay (ET L) (Qs n p) (Tb n p s i h j)=some (.nm,⟨jsV 57 0 Ab [(0,.sl 1 n (λk=>bV (p k))),(3,.ref 1),(4,iV (wr .i64 (Ah s 1))),(5,iV (wr .i64 (Ah (ofNat i) 1)))],[.row 3 1 0 Ab,.row 3 1 (AD i 1) (AG i (λk=>iV (h k)) (iV s))]⟩):=by
 exact Ad (ks:=[kn h0,kn h2,kn h1,kn h3]) (by kernel_rfl)
theorem Aju (h0:ilt (ofNat i) (ofNat n)=true) (h2:Bp i 1 8=true) (h1:Aj (ile 0 (ofNat i)) (ilt (ofNat i) (ofNat n))=true) (h3:p i=false):Ay (ET L) (Qs n p) (Tb n p s i h j)=some (.nm,⟨jsV 57 0 Ab [(0,.sl 1 n (λk=>bV (p k))),(3,.ref 1),(4,iV s),(5,iV (wr .i64 (Ah (ofNat i) 1)))],[.row 3 1 0 Ab,.row 3 1 (AD i 1) (AG i (λk=>iV (h k)) (iV s))]⟩):=by
 exact Ad (ks:=[kn h0,kn h2,kn h1,kn h3]) (by kernel_rfl)
end
def IH (n:Nat) (p:Nat->Bool) :St:=⟨jsV 57 0 (λ_=>AI) [(0,.sl 1 n (λk=>bV (p k))),(2,.ref 0),(3,.ref 1),(4,iV 0),(5,iV 0)],[.row 3 1 0 Ab,.row 3 1 0 Ab]⟩
def K7 (n:Nat) (p:Nat->Bool):Lp:=⟨bmK 57 0 [0,3,7],2,bmK 57 0 [3],2,n+1⟩
def Kv (n:Nat) (p:Nat->Bool) (d:Int) (g:Nat->Int) (j:Nat->V):St:=⟨jsV 57 0 j [(0,.sl 1 n (λk=>bV (p k))),(3,.ref 1),(7,iV d)],[.row 3 1 0 Ab,.row 3 1 n (λk=>iV (g k))]⟩
def KW (n:Nat) (p:Nat->Bool) (d:Int) (g:Nat->Int):Ex×St:=(.ex 2,⟨jsV 57 0 Ab [(3,.ref 1)],[.row 3 1 0 Ab,.row 3 1 n (λk=>iV (g k))]⟩)
noncomputable def H4 (L:LT):St->T (Ex×St):=λst=>A8 tab ⟨Ax tb0,L,Gl⟩ (As Tryz.f185 2) 2 st
section
variable (L:LT) (n:Nat) (p:Nat->Bool) (d:Int) (g:Nat->Int)  (j:Nat->V)
include L n p d g j
theorem AiY (h0:ile 0 d=false):Ay (H4 L) (K7 n p) (Kv n p d g j)=some ((.ex 2),⟨jsV 57 0 Ab [(3,.ref 1)],[.row 3 1 0 Ab,.row 3 1 n (λk=>iV (g k))]⟩):=by
 exact Ad (ks:=[kn h0,kn h0,kn h0,kn h0,kn h0,kn h0,kF]) (by kernel_rfl)
theorem AiX (h0:ile 0 d=true) (h1:Aj (ile 0 d) (ilt d (ofNat n))=true) (h3:p (toN d)=true):Ay (H4 L) (K7 n p) (Kv n p d g j)=some ((.ex 2),⟨jsV 57 0 Ab [(3,.ref 1)],[.row 3 1 0 Ab,.row 3 1 n (λk=>iV (g k))]⟩):=by
 exact Ad (ks:=[kn h0,kn h0,kn h0,kn h1,kn h0,kn h0,kn h0,kN (kn h3)]) (by kernel_rfl)
theorem AiW (h0:ile 0 d=true) (h1:Aj (ile 0 d) (ilt d (ofNat n))=true) (h3:p (toN d)=false) (h2:nlt (toN d) n=true):Ay (H4 L) (K7 n p) (Kv n p d g j)=some (.nm,⟨jsV 57 0 Ab [(0,.sl 1 n (λk=>bV (p k))),(3,.ref 1),(7,iV (wr .i64 (AZ d 1)))],[.row 3 1 0 Ab,.row 3 1 n (By (λk=>iV (g k)) (toN d) (iV 0))]⟩):=by
 exact Ad (ks:=[kn h0,kn h0,kn h0,kn h1,kn h0,kn h0,kn h0,kN (kn h3),kn h1,kn h2]) (by kernel_rfl)
end
def Af5 (n:Nat) (p:Nat->Bool) (s:Int) (g:Nat->Int):Nat->V:=lkU 144110790046121766 [(4,iV s),(6,nV n),(24,.sl 1 n (λk=>bV (p k))),(25,nV n),(26,nV n),(27,bV (ilt 0 (ofNat n))),(28,bV (ilt 0 (ofNat n))),(29,iV s),(30,bV (ilt 0 s)),(31,bV (ilt 0 s)),(32,bV (ilt 0 s)),(33,.sl 1 n (λk=>bV (p k))),(34,nV n),(35,iV (wr .i64 (AZ (ofNat n) 1))),(36,.pp (bV (p (toN (wr .i64 (AZ (ofNat n) 1)))))),(37,bV (p (toN (wr .i64 (AZ (ofNat n) 1))))),(38,bV (AQ (p (toN (wr .i64 (AZ (ofNat n) 1)))))),(39,bV (AQ (p (toN (wr .i64 (AZ (ofNat n) 1)))))),(40,nV n),(41,iV (wr .i64 (AZ (ofNat n) 1)))]
section
variable (L:LT) (p0:PT) (n:Nat) (p:Nat->Bool) (s:Int) (g:Nat->Int)
include L p0 n p s g
theorem AhT (h0:ilt 0 (ofNat n)=false) (hp0:p0 (ET (onP 0 p0 (Gk n p s n g) L)) (IH n p)=true):(A0 (Ai tab ⟨Ax tb0,onP 0 p0 (Gk n p s n g) L,Gl⟩ Tryz.f185 [.sl 1 n (λk=>bV (p k))] [])).sem=some ((.ref 0),[.row 3 1 n (λk=>iV (g k))]):=by
 exact Ad (ks:=[kn hp0,kn h0,kn h0,kn h0,kF,kF,kF,kF,kF,kF,kF,kF]) (by kernel_rfl)
theorem AhS (h0:ilt 0 (ofNat n)=true) (h1:ilt 0 s=false) (hp0:p0 (ET (onP 0 p0 (Gk n p s n g) L)) (IH n p)=true):(A0 (Ai tab ⟨Ax tb0,onP 0 p0 (Gk n p s n g) L,Gl⟩ Tryz.f185 [.sl 1 n (λk=>bV (p k))] [])).sem=some ((.ref 0),[.row 3 1 n (λk=>iV (g k))]):=by
 exact Ad (ks:=[kn hp0,kn h0,kn h0,kn h0,kn h1,kn h1,kn h1,kn h1,kn h1,kn h1,kn h1,kF]) (by kernel_rfl)
theorem AhR (h0:ilt 0 (ofNat n)=true) (h1:ilt 0 s=true) (h2:Aj (ile 0 (wr .i64 (AZ (ofNat n) 1))) (ilt (wr .i64 (AZ (ofNat n) 1)) (ofNat n))=true) (h3:p (toN (wr .i64 (AZ (ofNat n) 1)))=true) (hp0:p0 (ET (onP 0 p0 (Gk n p s n g) L)) (IH n p)=true):(A0 (Ai tab ⟨Ax tb0,onP 0 p0 (Gk n p s n g) L,Gl⟩ Tryz.f185 [.sl 1 n (λk=>bV (p k))] [])).sem=some ((.ref 0),[.row 3 1 n (λk=>iV (g k))]):=by
 exact Ad (ks:=[kn hp0,kn h0,kn h0,kn h0,kn h1,kn h1,kn h1,kn h1,kn h2,kn h1,kn h1,kn h1,kN (kn h3)]) (by kernel_rfl)
end
theorem AhQ (L:LT) (p0:PT) (p2:PT) (n:Nat) (p:Nat->Bool) (s:Int) (g:Nat->Int) (d:Int) (u:Nat->Int) (h0:ilt 0 (ofNat n)=true) (h1:ilt 0 s=true) (h2:Aj (ile 0 (wr .i64 (AZ (ofNat n) 1))) (ilt (wr .i64 (AZ (ofNat n) 1)) (ofNat n))=true) (h3:p (toN (wr .i64 (AZ (ofNat n) 1)))=false) (hp0:p0 (ET (onP 0 p0 (Gk n p s n g) (onP 2 p2 (KW n p d u) L))) (IH n p)=true) (hp2:p2 (H4 (onP 0 p0 (Gk n p s n g) (onP 2 p2 (KW n p d u) L))) (Kv n p (wr .i64 (AZ (ofNat n) 1)) g (Af5 n p s g))=true):(A0 (Ai tab ⟨Ax tb0,onP 0 p0 (Gk n p s n g) (onP 2 p2 (KW n p d u) L),Gl⟩ Tryz.f185 [.sl 1 n (λk=>bV (p k))] [])).sem=some ((.ref 0),[.row 3 1 n (λk=>iV (u k))]):=by
 exact Ad (ks:=[kn hp0,kn h0,kn h0,kn h0,kn h1,kn h1,kn h1,kn h1,kn h2,kn h1,kn h1,kn h1,kN (kn h3),kn hp2]) (by kernel_rfl)
theorem Tr (p:Nat->Bool) (i:Nat):AG i (λk=>iV (Dc p i k)) (iV (ofNat (Ak p i)))=λk=>iV (Dc p (i+1) k):=by
 funext k;rw [Bu,show Nat.beq k i=decide (k=i) by rw [Bool.eq_iff_iff]; simp];unfold Dc;by_cases h:k=i
 ·subst h; simp
 ·by_cases h2:k<i
  ·have:k<i+1:=by omega
   simp [h,h2,this]
  ·have:¬ k<i+1:=by omega
   simp [h,h2,this]
theorem BH {p:Nat->Bool} {i:Nat} (h:p i=true):Ak p (i+1)=Ak p i+1:=by rw [Ak,h]
theorem BZ {p:Nat->Bool} {i:Nat} (h:p i=false):Ak p (i+1)=Ak p i:=by rw [Ak,h]
theorem V1 (L:LT) (n:Nat) (p:Nat->Bool) (h8:n * 8 <= 140737488355328):∀ (e i:Nat) (j:Nat->V) (q:Nat),n=i+e->e<q ->
  (Au (ET L) (Qs n p) q (Tb n p (ofNat (Ak p i)) i (Dc p i) j)).sem=some (Gk n p (ofNat (Ak p n)) n (Dc p n))
 | 0,i,j,q+1,h,_=>by
  have:n=i:=by omega
  subst this;exact Ag (Ajv L n p _ _ _ j (Az (Nat.le_refl _)))
 | e+1,i,j,q+1,h,h2=>by
  have hc:=BK p i;have hl:i<n:=by omega
  have ha:Bp i 1 8=true:=GH (by omega);cases hp:p i with
  | true =>rw [Ag (Ajt L n p (ofNat (Ak p i)) i (Dc p i) j (ofNat_lt hl) ha (Ae hl) hp),AV,A1 hl (by omega),A1 (show Ak p i<n by omega) (by omega),<- BH hp,Tr p i];exact V1 L n p h8 e (i+1) Ab q (by omega) (by omega)
  | false =>rw [Ag (Aju L n p (ofNat (Ak p i)) i (Dc p i) j (ofNat_lt hl) ha (Ae hl) hp),AV,A1 hl (by omega),Tr p i,<- BZ hp];exact V1 L n p h8 e (i+1) Ab q (by omega) (by omega)
set_option maxHeartbeats 4000000 in
theorem WP (L:LT) (n:Nat) (p:Nat->Bool) (hn:n <= 4611686018427387904) (hs:0<Ak p n):∀ (D:Nat) (j:Nat->V) (q:Nat),D <= n->D<q->(∀ k,D <= k->k<n->Ak p k=Ak p n) ->
  (Au (H4 L) (K7 n p) q (Kv n p (dn D) (Dc p D) j)).sem=some (KW n p 0 (A7 p n))
 | 0,j,q+1,h,_,hb=>by
  rw [<- HD p n 0 h (λk hk=>absurd hk (Nat.not_lt_zero _)) hb];exact Ag (AiY L n p (dn 0) (Dc p 0) j rfl)
 | D+1,j,q+1,h,h2,hb=>by
  have hD:D<n:=by omega
  have hk:nlt D n=true:=by simpa [nlt] using hD
  cases hp:p D with
  | false =>
   have he:Ak p D=Ak p n:=by
    rw [<- BZ hp];by_cases h5:D+1=n
    ·rw [h5]
    ·exact hb (D+1) (Nat.le_refl _) (by omega)
   rw [show dn (D+1)=ofNat D from rfl,Ag (AiW L n p (ofNat D) (Dc p (D+1)) j (Cp D) (Ae hD) hp hk),AV,Q6 (show D <= n by omega) hn,C2,show toN (ofNat D)=D from rfl,Ls];exact WP L n p hn hs D Ab q (by omega) (by omega) λk h3 h4=>by
    by_cases h5:k=D
    ·subst h5; exact he
    ·exact hb k (by omega) h4
  | true =>
   have h6:Ak p D<Ak p n:=by
    have:=Bf p (show D+1 <= n by omega);rw [BH hp] at this;omega
   rw [<- HD p n (D+1) h (λk hk=>by have:=Bf p (show k <= D by omega); omega) hb];rw [show dn (D+1)=ofNat D from rfl];exact Ag (AiX L n p (ofNat D) (Dc p (D+1)) j (Cp D) (Ae hD) hp)
def SB:List (Nat×List (Nat×V)):=[(0,[(1,iV 0)])]
def Of (n:Nat) (p:Nat->Bool):List (Nat×Lp):=[(0,Qs n p),(2,K7 n p)]
def L0:List V->A3
 | [v]=>apB v λn p=>.br (Gv n) (.leaf (.ref 0,[.row 3 1 n λk=>iV (A7 p n k)])) .fail
 | _=>.fail
theorem AfM (n:Nat) (p:Nat->Bool):KI (IH n p) [(1,iV 0)]=Tb n p 0 0 (λ_=>0) (λi=>nth (IH n p).t i):=by kernel_rfl
theorem Ad0 (n:Nat) (p:Nat->Bool) (h8:Gv n=true) :
  (A0 (Ai tab (cxZ Gl tb0 SB (Of n p)) Tryz.f185 [Wy n p] [])).sem=some (.ref 0,[.row 3 1 n λk=>iV (A7 p n k)]):=by
 have h8':n * 8 <= 140737488355328:=of_decide_eq_true h8;have hn:n <= 4611686018427387904:=by omega
 have hL:=LI SB (Of n p);have h0:∀ L,(HK SB (Of n p) 0 (ET L) (IH n p)).sem=some (Gk n p (ofNat (Ak p n)) n (Dc p n)):=λL=>by
  show (Au (ET L) (Qs n p) (n+1) (KI (IH n p) [(1,iV 0)])).sem=_;rw [AfM,<- V3 p];exact V1 L n p h8' n 0 _ (n+1) (by omega) (by omega)
 cases n with
 | zero =>rw [<- Rq p 0 rfl];exact Bn (Be hL hL) _ (AhT _ _ 0 p _ _ rfl (A5 (h0 _)))
 | succ m =>
  have c0:ilt 0 (ofNat (m+1))=true:=by rw [show (0:Int)=ofNat 0 from rfl,Dt]; simp
  have e1:wr .i64 (AZ (ofNat (m+1)) 1)=ofNat m:=Q6 (Nat.le_refl _) hn;have e2:toN (ofNat m)=m:=rfl;cases hs:ilt 0 (ofNat (Ak p (m+1))) with
  | false =>
   have hz:Ak p (m+1)=0:=by simpa [ilt] using hs
   have hw:=Bn (Be hL hL) _ (AhS _ _ (m+1) p _ _ c0 hs (A5 (h0 _)));rw [<- Rq p (m+1) hz];exact hw
  | true =>
   have hz:0<Ak p (m+1):=by simpa [ilt] using hs
   have hb:Aj (ile 0 (wr .i64 (AZ (ofNat (m+1)) 1))) (ilt (wr .i64 (AZ (ofNat (m+1)) 1)) (ofNat (m+1)))=true:=by rw [e1]; exact Ae (Nat.lt_succ_self m)
   cases hp:p m with
   | true =>have hw:=Bn (Be hL hL) _ (AhR _ _ (m+1) p _ _ c0 hs hb (by rw [e1,e2]; exact hp) (A5 (h0 _)));rw [<- HD p (m+1) (m+1) (Nat.le_refl _) (λk hk=>by have:=Bf p (show k <= m by omega); rw [BH hp]; omega) (λk h1 h2=>by omega)];exact hw
   | false =>have h2:=λL j=>WP L (m+1) p hn hz (m+1) j (m+2) (Nat.le_refl _) (by omega) (λk h1 h2=>by omega);rw [show dn (m+1)=ofNat m from rfl,<- e1] at h2;exact Bn (Be (Be hL hL) hL) _ (AhQ _ _ _ (m+1) p _ (Dc p (m+1)) 0 (A7 p (m+1)) c0 hs hb (by rw [e1,e2]; exact hp) (A5 (h0 _)) (A5 (h2 _ _)))
theorem Aph:An Tryz.prog Gl 185 L0:=by
 refine Al A2 mixed Tryz.func185 (by kernel_rfl) (by kernel_rfl) λvs v h' h=>?_;unfold L0 at h;split at h
 ·rename_i u
  obtain ⟨n,p,ha,h1⟩:=AcY h;obtain ⟨h8,hq⟩:=Ac h1;have:=Aa hq;simp only [Prod.mk.injEq] at this;obtain ⟨rfl,rfl⟩:=this;have hA:Bz [u] [Wy n p]:=λS w cs hv=>by
   obtain ⟨c,l,rfl,q1,q2⟩:=hv;exact ⟨c,l,rfl,ha S w c q1,q2⟩
  have hx:=Wr BS SB (Of n p);exact ⟨_,cxZ Gl tb0 SB (Of n p),_,hA,rfl,hx.1,hx.2,Ad0 n p h8,Ap.refl _⟩
 ·cases h
theorem Em {n:Nat}:Cm [.row 3 1 n (λ_=>iV 0)]=true:=by
 simp [Cm,Lj,iV]
noncomputable def UW:A9:=(152,BV λe=>bV (A4 e))::(153,BV λe=>bV (AB e))::(185,L0)::[]
theorem WC:Ao Tryz.prog Gl UW:=.cons p60 <| .cons p61 <| .cons Aph .nil
def Jy (p:Nat->Bool) (i k:Nat):Bool:=decide (k<i) && p k
theorem Aax (p:Nat->Bool):Jy p 0=λ_=>false:=by
 funext k;simp [Jy]
theorem Qc (p:Nat->Bool) (i:Nat):AG i (λk=>bV (Jy p i k)) (bV (p i))=λk=>bV (Jy p (i+1) k):=by
 funext k;rw [Bu,show Nat.beq k i=decide (k=i) by rw [Bool.eq_iff_iff]; simp];unfold Jy;by_cases h:k=i
 ·subst h; simp
 ·by_cases h2:k<i
  ·have:k<i+1:=by omega
   simp [h,h2,this]
  ·have:¬ k<i+1:=by omega
   simp [h,h2,this]
theorem Cy {p q:Nat->Bool}:∀ k,(∀ i,i<k->q i=p i)->Ak q k=Ak p k
 | 0,_=>rfl
 | k+1,h=>by
  rw [Ak,Ak,h k (Nat.lt_succ_self k),Cy k λi hi=>h i (by omega)]
theorem NR (p:Nat->Bool) (n:Nat):A7 (Jy p n) n=A7 p n:=by
 have hq:∀ i,i<n->Jy p n i=p i:=λi hi=>by simp [Jy,hi]
 funext k;unfold A7;by_cases h:k<n
 ·rw [Cy k λi hi=>hq i (by omega),Cy n hq]
 ·simp [h]
theorem JO {n:Nat} (h:CU n=true):n * 8 <= 140737488355328:=of_decide_eq_true (Hb h)
def TG (n:Nat) (f:Nat->E6):Lp:=⟨bmK 21 0 [0,3,4],2,bmK 21 0 [3],2,n+1⟩
def Aea (n:Nat) (f:Nat->E6) (i:Nat) (h:Nat->Bool) (j:Nat->V):St:=⟨jsV 21 0 j [(0,.sl 6 n (λi=>eV (f i))),(3,.ref 1),(4,nV i)],[.row 3 1 0 Ab,.row 4 1 i (λk=>bV (h k))]⟩
def XH (n:Nat) (f:Nat->E6) (i:Nat) (h:Nat->Bool):Ex×St:=(.ex 0,⟨jsV 21 0 Ab [(3,.ref 1)],[.row 3 1 0 Ab,.row 4 1 i (λk=>bV (h k))]⟩)
noncomputable def Mb (L:LT):St->T (Ex×St):=λst=>A8 tab ⟨Ax UW,L,Gl⟩ (As Tryz.f154 0) 0 st
section
variable (L:LT) (n:Nat) (f:Nat->E6) (i:Nat) (h:Nat->Bool)  (j:Nat->V)
include L n f i h j
theorem AlV (h0:ilt (ofNat i) (ofNat n)=false):Ay (Mb L) (TG n f) (Aea n f i h j)=some ((.ex 0),⟨jsV 21 0 Ab [(3,.ref 1)],[.row 3 1 0 Ab,.row 4 1 i (λk=>bV (h k))]⟩):=by
 exact Ad (ks:=[kn h0]) (by kernel_rfl)
theorem AlU (h0:ilt (ofNat i) (ofNat n)=true) (h1:Aj (ile 0 (ofNat i)) (ilt (ofNat i) (ofNat n))=true) (h2:Bp i 1 1=true):Ay (Mb L) (TG n f) (Aea n f i h j)=some (.nm,⟨jsV 21 0 Ab [(0,.sl 6 n (λi=>eV (f i))),(3,.ref 1),(4,iV (wr .i64 (Ah (ofNat i) 1)))],[.row 3 1 0 Ab,.row 4 1 (AD i 1) (AG i (λk=>bV (h k)) (bV (A4 (f i))))]⟩):=by
 exact Ad (ks:=[kn h0,kn h1,kn h2]) (by kernel_rfl)
end
def Us (n:Nat) (f:Nat->E6) :St:=⟨jsV 21 0 (λ_=>AI) [(0,.sl 6 n (λi=>eV (f i))),(2,.ref 0),(3,.ref 1),(4,iV 0)],[.row 3 1 0 Ab,.row 4 1 0 Ab]⟩
theorem Ao4 (L:LT) (p0:PT) (n:Nat) (f:Nat->E6) (q:Nat->Bool) (h0:Gv n=true) (h10:Cm [.row 3 1 n (λ_=>iV 0)]=true) (hp0:p0 (Mb (onP 0 p0 (XH n f n q) L)) (Us n f)=true):(A0 (Ai tab ⟨Ax UW,onP 0 p0 (XH n f n q) L,Gl⟩ Tryz.f154 [AL n f] [])).sem=some ((.ref 0),[.row 3 1 n (λk=>iV (A7 q n k))]):=by
 exact Ad (ks:=[kn hp0,kL n,kn h0,kn h10]) (by kernel_rfl)
theorem Ag9 (L:LT) (n:Nat) (f:Nat->E6) (h8:n * 8 <= 140737488355328):∀ (e i:Nat) (j:Nat->V) (q:Nat),n=i+e->e<q ->
  (Au (Mb L) (TG n f) q (Aea n f i (Jy (λk=>A4 (f k)) i) j)).sem=some (XH n f n (Jy (λk=>A4 (f k)) n))
 | 0,i,j,q+1,h,_=>by
  have:n=i:=by omega
  subst this;exact Ag (AlV L n f _ _ j (Az (Nat.le_refl _)))
 | e+1,i,j,q+1,h,h2=>by
  have hl:i<n:=by omega
  have ha:Bp i 1 1=true:=GH (by omega);rw [Ag (AlU L n f i (Jy (λk=>A4 (f k)) i) j (ofNat_lt hl) (Ae hl) ha),AV,A1 hl (by omega)];have:=Qc (λk=>A4 (f k)) i;rw [this];exact Ag9 L n f h8 e (i+1) Ab q (by omega) (by omega)
def Adu:List (Nat×List (Nat×V)):=[(0,[(1,bV false)])]
theorem Akm (n:Nat) (f:Nat->E6):KI (Us n f) [(1,bV false)]=Aea n f 0 (λ_=>false) (λi=>nth (Us n f).t i):=by kernel_rfl
def Rs:List V->A3:=H5 λn f=>.br (CU n) (.leaf (.ref 0,[.row 3 1 n λk=>iV (A7 (λk=>A4 (f k)) n k)])) .fail
theorem p94:An Tryz.prog Gl 154 Rs:=by
 refine Al A2 mixed Tryz.func154 (by kernel_rfl) (by kernel_rfl) λvs v h' h=>?_;obtain ⟨n,f,ha,h1⟩:=Do h;obtain ⟨hn,hq⟩:=Ac h1;have:=Aa hq;simp only [Prod.mk.injEq] at this;obtain ⟨rfl,rfl⟩:=this;have hx:=Wr WC Adu [(0,TG n f)];have hL:=LI Adu [(0,TG n f)];have h0:∀ L,(HK Adu [(0,TG n f)] 0 (Mb L) (Us n f)).sem=some (XH n f n (Jy (λk=>A4 (f k)) n)):=λL=>by
  show (Au (Mb L) (TG n f) (n+1) (KI (Us n f) [(1,bV false)])).sem=_;rw [Akm,<- Aax (λk=>A4 (f k))];exact Ag9 L n f (JO hn) n 0 _ (n+1) (by omega) (by omega)
 have hw:=Bn (Be hL hL) _ (Ao4 _ _ n f _ (Hb hn) Em (A5 (h0 _)));rw [NR (λk=>A4 (f k)) n] at hw;exact ⟨_,cxZ Gl UW Adu [(0,TG n f)],_,ha,rfl,hx.1,hx.2,hw,Ap.refl _⟩
def TF (n:Nat) (f:Nat->E6):Lp:=⟨bmK 21 0 [0,3,4],2,bmK 21 0 [3],2,n+1⟩
def AdZ (n:Nat) (f:Nat->E6) (i:Nat) (h:Nat->Bool) (j:Nat->V):St:=⟨jsV 21 0 j [(0,.sl 6 n (λi=>eV (f i))),(3,.ref 1),(4,nV i)],[.row 3 1 0 Ab,.row 4 1 i (λk=>bV (h k))]⟩
def XG (n:Nat) (f:Nat->E6) (i:Nat) (h:Nat->Bool):Ex×St:=(.ex 0,⟨jsV 21 0 Ab [(3,.ref 1)],[.row 3 1 0 Ab,.row 4 1 i (λk=>bV (h k))]⟩)
noncomputable def Ma (L:LT):St->T (Ex×St):=λst=>A8 tab ⟨Ax UW,L,Gl⟩ (As Tryz.f155 0) 0 st
section
variable (L:LT) (n:Nat) (f:Nat->E6) (i:Nat) (h:Nat->Bool)  (j:Nat->V)
include L n f i h j
theorem AlT (h0:ilt (ofNat i) (ofNat n)=false):Ay (Ma L) (TF n f) (AdZ n f i h j)=some ((.ex 0),⟨jsV 21 0 Ab [(3,.ref 1)],[.row 3 1 0 Ab,.row 4 1 i (λk=>bV (h k))]⟩):=by
 exact Ad (ks:=[kn h0]) (by kernel_rfl)
theorem AlS (h0:ilt (ofNat i) (ofNat n)=true) (h1:Aj (ile 0 (ofNat i)) (ilt (ofNat i) (ofNat n))=true) (h2:Bp i 1 1=true):Ay (Ma L) (TF n f) (AdZ n f i h j)=some (.nm,⟨jsV 21 0 Ab [(0,.sl 6 n (λi=>eV (f i))),(3,.ref 1),(4,iV (wr .i64 (Ah (ofNat i) 1)))],[.row 3 1 0 Ab,.row 4 1 (AD i 1) (AG i (λk=>bV (h k)) (bV (AB (f i))))]⟩):=by
 exact Ad (ks:=[kn h0,kn h1,kn h2]) (by kernel_rfl)
end
def Ur (n:Nat) (f:Nat->E6) :St:=⟨jsV 21 0 (λ_=>AI) [(0,.sl 6 n (λi=>eV (f i))),(2,.ref 0),(3,.ref 1),(4,iV 0)],[.row 3 1 0 Ab,.row 4 1 0 Ab]⟩
theorem Ao3 (L:LT) (p0:PT) (n:Nat) (f:Nat->E6) (q:Nat->Bool) (h0:Gv n=true) (h10:Cm [.row 3 1 n (λ_=>iV 0)]=true) (hp0:p0 (Ma (onP 0 p0 (XG n f n q) L)) (Ur n f)=true):(A0 (Ai tab ⟨Ax UW,onP 0 p0 (XG n f n q) L,Gl⟩ Tryz.f155 [AL n f] [])).sem=some ((.ref 0),[.row 3 1 n (λk=>iV (A7 q n k))]):=by
 exact Ad (ks:=[kn hp0,kL n,kn h0,kn h10]) (by kernel_rfl)
theorem Ag8 (L:LT) (n:Nat) (f:Nat->E6) (h8:n * 8 <= 140737488355328):∀ (e i:Nat) (j:Nat->V) (q:Nat),n=i+e->e<q ->
  (Au (Ma L) (TF n f) q (AdZ n f i (Jy (λk=>AB (f k)) i) j)).sem=some (XG n f n (Jy (λk=>AB (f k)) n))
 | 0,i,j,q+1,h,_=>by
  have:n=i:=by omega
  subst this;exact Ag (AlT L n f _ _ j (Az (Nat.le_refl _)))
 | e+1,i,j,q+1,h,h2=>by
  have hl:i<n:=by omega
  have ha:Bp i 1 1=true:=GH (by omega);rw [Ag (AlS L n f i (Jy (λk=>AB (f k)) i) j (ofNat_lt hl) (Ae hl) ha),AV,A1 hl (by omega)];have:=Qc (λk=>AB (f k)) i;rw [this];exact Ag8 L n f h8 e (i+1) Ab q (by omega) (by omega)
def Adt:List (Nat×List (Nat×V)):=[(0,[(1,bV false)])]
theorem Akl (n:Nat) (f:Nat->E6):KI (Ur n f) [(1,bV false)]=AdZ n f 0 (λ_=>false) (λi=>nth (Ur n f).t i):=by kernel_rfl
def Rr:List V->A3:=H5 λn f=>.br (CU n) (.leaf (.ref 0,[.row 3 1 n λk=>iV (A7 (λk=>AB (f k)) n k)])) .fail
theorem p95:An Tryz.prog Gl 155 Rr:=by
 refine Al A2 mixed Tryz.func155 (by kernel_rfl) (by kernel_rfl) λvs v h' h=>?_;obtain ⟨n,f,ha,h1⟩:=Do h;obtain ⟨hn,hq⟩:=Ac h1;have:=Aa hq;simp only [Prod.mk.injEq] at this;obtain ⟨rfl,rfl⟩:=this;have hx:=Wr WC Adt [(0,TF n f)];have hL:=LI Adt [(0,TF n f)];have h0:∀ L,(HK Adt [(0,TF n f)] 0 (Ma L) (Ur n f)).sem=some (XG n f n (Jy (λk=>AB (f k)) n)):=λL=>by
  show (Au (Ma L) (TF n f) (n+1) (KI (Ur n f) [(1,bV false)])).sem=_;rw [Akl,<- Aax (λk=>AB (f k))];exact Ag8 L n f (JO hn) n 0 _ (n+1) (by omega) (by omega)
 have hw:=Bn (Be hL hL) _ (Ao3 _ _ n f _ (Hb hn) Em (A5 (h0 _)));rw [NR (λk=>AB (f k)) n] at hw;exact ⟨_,cxZ Gl UW Adt [(0,TF n f)],_,ha,rfl,hx.1,hx.2,hw,Ap.refl _⟩
noncomputable def tb53:A9:=(79,AmO)::(154,Rs)::(155,Rr)::[]
theorem tb53_ok:Ao Tryz.prog Gl tb53:=.cons p98 <| .cons p94 <| .cons p95 .nil
def K1 (g:Nat->(Nat->E6)->Nat->Int):List V->A3:=H5 λn f=>.br (CU n) (match Es n f with
 | true=>.leaf (.tup [.ref 0,iV 0],[.row 3 1 n λk=>iV (g n f k)])
 | false=>.leaf (.tup [.ref 0,iV 30],[.row 3 1 0 λ_=>.und])) .fail
theorem p53:An Tryz.prog Gl 109 (K1 λn f=>A7 (λk=>A4 (f k)) n):=by
 refine Al A2 mixed Tryz.func109 (by kernel_rfl) (by kernel_rfl) λvs v h' h=>?_;obtain ⟨n,f,ha,h1⟩:=Do h;obtain ⟨hn,hq⟩:=Ac h1;have hx:=Bq tb53_ok [];have hs:Av n=true:=Acn (Hb hn);cases hm:Es n f with
 | true =>rw [hm] at hq;have:=Aa hq;simp only [Prod.mk.injEq] at this;obtain ⟨rfl,rfl⟩:=this;exact ⟨_,AP Gl tb53 [],_,ha,rfl,hx.1,hx.2,Ad (ks:=[kL n,kn hs,kN (kn hm),kL n,kn hn]) (by kernel_rfl)/-W:w53t-/,Ap.refl _⟩
 | false =>rw [hm] at hq;have:=Aa hq;simp only [Prod.mk.injEq] at this;obtain ⟨rfl,rfl⟩:=this;exact ⟨_,AP Gl tb53 [],_,ha,rfl,hx.1,hx.2,Ad (ks:=[kL n,kn hs,kN (kn hm)]) (by kernel_rfl)/-W:w53f-/,Ap.refl _⟩
theorem p54:An Tryz.prog Gl 110 (K1 λn f=>A7 (λk=>AB (f k)) n):=by
 refine Al A2 mixed Tryz.func110 (by kernel_rfl) (by kernel_rfl) λvs v h' h=>?_;obtain ⟨n,f,ha,h1⟩:=Do h;obtain ⟨hn,hq⟩:=Ac h1;have hx:=Bq tb53_ok [];have hs:Av n=true:=Acn (Hb hn);cases hm:Es n f with
 | true =>rw [hm] at hq;have:=Aa hq;simp only [Prod.mk.injEq] at this;obtain ⟨rfl,rfl⟩:=this;exact ⟨_,AP Gl tb53 [],_,ha,rfl,hx.1,hx.2,Ad (ks:=[kL n,kn hs,kN (kn hm),kL n,kn hn]) (by kernel_rfl)/-W:w54t-/,Ap.refl _⟩
 | false =>rw [hm] at hq;have:=Aa hq;simp only [Prod.mk.injEq] at this;obtain ⟨rfl,rfl⟩:=this;exact ⟨_,AP Gl tb53 [],_,ha,rfl,hx.1,hx.2,Ad (ks:=[kL n,kn hs,kN (kn hm)]) (by kernel_rfl)/-W:w54f-/,Ap.refl _⟩
end Go.Proofs.YtkbafjceglhjhaaGreatDoor.Ed
namespace Go.Proofs.YtkbafjceglhjhaaGreatDoor.Sh
open Go.Sy Ed
open Int (ofNat)
theorem Aio (e:E6):(A0 (Ai tab (AP Gl [] []) Tryz.f177 [eV e] [])).sem=(sel (ieq (e).kind 1) (sel (ieq (e).kind 1) (sel (ieq (e).kind 1) (sel (ieq (e).kind 1) (some ((bV true),[])) none) none) none) (sel (ieq (e).kind 1) (sel (ieq (e).kind 1) (sel (ieq (e).kind 1) (some ((bV true),[])) none) none) (sel (ieq (e).kind 1) (sel (ieq (e).kind 1) (some ((bV true),[])) none) (sel (ieq (e).kind 1) (some ((bV true),[])) (sel (ieq (e).kind 2) (sel (ieq (e).kind 2) (sel (ieq (e).kind 2) (sel (ieq (e).kind 2) (some ((bV true),[])) (some (AI,[]))) none) none) (sel (ieq (e).kind 2) (sel (ieq (e).kind 2) (sel (ieq (e).kind 2) (some ((bV true),[])) (some (AI,[]))) none) (sel (ieq (e).kind 2) (sel (ieq (e).kind 2) (some ((bV true),[])) (some (AI,[]))) (sel (ieq (e).kind 2) (some ((bV true),[])) (some ((bV (ieq (e).kind 3)),[])))))))))):=by kernel_rfl
theorem p91:An Tryz.prog Gl 177 (BV λe=>bV (BE e)):=by
 refine An.congr (AK A2 mixed Tryz.func177 (by kernel_rfl) (by kernel_rfl) (Γ:=AP Gl [] []) (Bq Ao.nil _)) λvs r h=>?_;obtain ⟨e,rfl,rfl⟩:=Cf h;refine (Aio e).trans ?_;rw [OR];cases ieq e.kind 1 <;> cases ieq e.kind 2 <;> cases ieq e.kind 3 <;> rfl
noncomputable def ZO:A9:=(177,BV λe=>bV (BE e))::[]
theorem WH:Ao Tryz.prog Gl ZO:=.cons p91 .nil
theorem Aiu (e:E6):(A0 (Ai tab (AP Gl ZO []) Tryz.f139 [eV e] [])).sem=(sel (BE e) (sel (BE e) (sel (BE e) (some ((bV (e).ext),[])) (some ((bV false),[]))) (sel (BE e) (some (AI,[])) (some ((bV false),[])))) (sel (BE e) none (sel (BE e) (some (AI,[])) (some ((bV false),[]))))):=by kernel_rfl
theorem p52:An Tryz.prog Gl 139 (BV λe=>bV (A4 e)):=by
 refine An.congr (AK A2 mixed Tryz.func139 (by kernel_rfl) (by kernel_rfl) (Γ:=AP Gl ZO []) (Bq WH _)) λvs r h=>?_;obtain ⟨e,rfl,rfl⟩:=Cf h;refine (Aiu e).trans ?_;unfold A4;cases BE e <;> rfl
theorem Ait (e:E6):(A0 (Ai tab (AP Gl ZO []) Tryz.f141 [eV e] [])).sem=(sel (AQ (BE e)) (sel (AQ (BE e)) (sel (AQ (BE e)) (sel (AQ (BE e)) (some ((bV (AQ (e).same)),[])) (some ((bV false),[]))) (sel (AQ (BE e)) (some (AI,[])) (some ((bV false),[])))) (sel (AQ (BE e)) none (sel (AQ (BE e)) (some (AI,[])) (some ((bV false),[]))))) (sel (AQ (BE e)) none (sel (AQ (BE e)) none (sel (AQ (BE e)) (some (AI,[])) (some ((bV false),[])))))):=by kernel_rfl
theorem p54:An Tryz.prog Gl 141 (BV λe=>bV (AB e)):=by
 refine An.congr (AK A2 mixed Tryz.func141 (by kernel_rfl) (by kernel_rfl) (Γ:=AP Gl ZO []) (Bq WH _)) λvs r h=>?_;obtain ⟨e,rfl,rfl⟩:=Cf h;refine (Ait e).trans ?_;unfold AB;cases BE e <;> rfl
noncomputable def MM (n:Nat) (f:Nat->Int) (x:Int):Int:=match (List.range n).find? λi=>ieq x (f i) with
 | some i=>ofNat i
 | none=>-1
theorem Qz {n:Nat} {f:Nat->Int} {x:Int} {i:Nat} (hi:i<n) (h:ieq x (f i)=true) (hb:∀ k,k<i->ieq x (f k)=false):MM n f x=ofNat i:=by
 unfold MM;have:(List.range n).find? (λi=>ieq x (f i))=some i:=by
  rw [List.find?_range_eq_some];exact ⟨h,by simpa using hi,λj hj=>by rw [hb j hj]; rfl⟩
 rw [this]
theorem Ua {n:Nat} {f:Nat->Int} {x:Int} (h:∀ k,k<n->ieq x (f k)=false):MM n f x = -1:=by
 unfold MM;have:(List.range n).find? (λi=>ieq x (f i))=none:=by
  rw [List.find?_eq_none];intro k hk;rw [h k (by simpa using hk)];simp
 rw [this]
def Oh (n:Nat) (f:Nat->Int) (x:Int):Lp:=⟨bmK 19 0 [0,1,4,7,8],0,bmK 19 0 [4],0,n+1⟩
def QZ (n:Nat) (f:Nat->Int) (x:Int) (b:Nat) (j:Nat->V):St:=⟨jsV 19 0 j [(0,.sl 1 n λk=>iV (f k)),(1,iV x),(4,iV 0),(7,nV n),(8,nV b)],[]⟩
def XI (n:Nat) (f:Nat->Int) (x:Int) (b:Nat):Ex×St:=(.rt,⟨jsV 19 0 Ab [(4,nV b)],[]⟩)
def XJ (n:Nat) (f:Nat->Int) (x:Int) (b:Nat):Ex×St:=(.ex 0,⟨jsV 19 0 Ab [(4,iV 0)],[]⟩)
noncomputable def Ia (L:LT):St->T (Ex×St):=λst=>A8 tab ⟨Ax tb0,L,Gl⟩ (As Tryz.f178 0) 0 st
section
variable (L:LT) (n:Nat) (f:Nat->Int) (x:Int) (b:Nat)  (j:Nat->V)
include L n f x b j
theorem AlA (h0:ilt (ofNat b) (ofNat n)=true) (h11:ile 0 (ofNat b)=true) (h1:ieq x (f b)=false):Ay (Ia L) (Oh n f x) (QZ n f x b j)=some (.nm,⟨jsV 19 0 Ab [(0,.sl 1 n (λk=>iV (f k))),(1,iV x),(4,iV 0),(7,nV n),(8,iV (wr .i64 (Ah (ofNat b) 1)))],[]⟩):=by
 exact Ad (ks:=[kn h0,kA (kn h11) (kn h0),kn h1]) (by kernel_rfl)
theorem Al9 (h0:ilt (ofNat b) (ofNat n)=true) (h11:ile 0 (ofNat b)=true) (h1:ieq x (f b)=true):Ay (Ia L) (Oh n f x) (QZ n f x b j)=some (.rt,⟨jsV 19 0 Ab [(4,nV b)],[]⟩):=by
 exact Ad (ks:=[kn h0,kA (kn h11) (kn h0),kn h1]) (by kernel_rfl)
theorem AlB (h0:ilt (ofNat b) (ofNat n)=false):Ay (Ia L) (Oh n f x) (QZ n f x b j)=some ((.ex 0),⟨jsV 19 0 Ab [(4,iV 0)],[]⟩):=by
 exact Ad (ks:=[kn h0]) (by kernel_rfl)
end
def Akd (n:Nat) (f:Nat->Int) (x:Int) :Nat->V:=lkV AI [(6,.sl 1 n (λk=>iV (f k)))]
theorem AkO (L:LT) (p0:PT) (n:Nat) (f:Nat->Int) (x:Int) (b:Nat)  (hp0:p0 (Ia (onP 0 p0 (XI n f x b) L)) (QZ n f x 0 (Akd n f x ))=true):(A0 (Ai tab ⟨Ax tb0,onP 0 p0 (XI n f x b) L,Gl⟩ Tryz.f178 [.sl 1 n λk=>iV (f k),iV x] [])).sem=some ((nV b),[]):=by
 exact Ad (ks:=[kn hp0]) (by kernel_rfl)
theorem AkP (L:LT) (p0:PT) (n:Nat) (f:Nat->Int) (x:Int)  (hp0:p0 (Ia (onP 0 p0 (XJ n f x 0) L)) (QZ n f x 0 (Akd n f x ))=true):(A0 (Ai tab ⟨Ax tb0,onP 0 p0 (XJ n f x 0) L,Gl⟩ Tryz.f178 [.sl 1 n λk=>iV (f k),iV x] [])).sem=some ((iV (-1)),[]):=by
 exact Ad (ks:=[kn hp0]) (by kernel_rfl)
theorem AgA (L:LT) (n:Nat) (f:Nat->Int) (x:Int) (hn:n <= 4611686018427387904):∀ (e i:Nat) (j:Nat->V) (q:Nat),n=i+e->e<q->(∀ k,k<i->ieq x (f k)=false) ->
  ((Au (Ia L) (Oh n f x) q (QZ n f x i j)).sem=some (XJ n f x 0)∧MM n f x = -1) ∨ ∃ b,(Au (Ia L) (Oh n f x) q (QZ n f x i j)).sem=some (XI n f x b)∧MM n f x=ofNat b
 | 0,i,j,q+1,h,_,hb=>by
  have:n=i:=by omega
  subst this;exact .inl ⟨Ag (AlB L n f x n j (Az (Nat.le_refl _))),Ua hb⟩
 | e+1,i,j,q+1,h,h2,hb=>by
  have hl:i<n:=by omega
  cases hp:ieq x (f i) with
  | true =>exact .inr ⟨i,Ag (Al9 L n f x i j (ofNat_lt hl) (Cp i) hp),Qz hl hp hb⟩
  | false =>
   rw [Ag (AlA L n f x i j (ofNat_lt hl) (Cp i) hp),AV,A1 hl hn];refine AgA L n f x hn e (i+1) Ab q (by omega) (by omega) λk hk=>?_;by_cases hki:k=i
   ·rw [hki]; exact hp
   ·exact hb k (by omega)
noncomputable def VS:List V->A3
 | [v,.val (.int .i64 x)]=>apI v λn f=>.br (Gv n) (.leaf (iV (MM n f x),[])) .fail
 | _=>.fail
theorem p92:An Tryz.prog Gl 178 VS:=by
 refine Al A2 mixed Tryz.func178 (by kernel_rfl) (by kernel_rfl) λvs v h' h=>?_;unfold VS at h;split at h
 ·rename_i u x
  obtain ⟨n,f,ha,h1⟩:=D2 h;obtain ⟨h8,hq⟩:=Ac h1;have:=Aa hq;simp only [Prod.mk.injEq] at this;obtain ⟨rfl,rfl⟩:=this;have h8':n * 8 <= 140737488355328:=of_decide_eq_true h8;have hA:Bz [u,iV x] [Fh n f,iV x]:=λS w cs hv=>by
   obtain ⟨c,l,rfl,q1,q2⟩:=hv;exact ⟨c,l,rfl,ha S w c q1,q2⟩
  have hx:=Bq BS [(0,Oh n f x)] (G:=Gl);have hL:=Bh [(0,Oh n f x)];refine ⟨_,AP Gl tb0 [(0,Oh n f x)],_,hA,rfl,hx.1,hx.2,?_,Ap.refl _⟩;have h0:=λL j=>AgA L n f x (by omega) n 0 j (n+1) (by omega) (by omega) (λk hk=>absurd hk (Nat.not_lt_zero _));rcases h0 (BO [(0,Oh n f x)]) (Akd n f x) with ⟨_,h5⟩ | ⟨b,_,h5⟩
  ·have h6:∀ L j,(Au (Ia L) (Oh n f x) (n+1) (QZ n f x 0 j)).sem=some (XJ n f x 0):=λL j=>by
    rcases h0 L j with ⟨h,_⟩ | ⟨b,_,h⟩
    ·exact h
    ·rw [h5] at h
     cases h
   rw [h5];exact Bn (Be hL hL) _ (AkP _ _ n f x (A5 (h6 _ _)))
  ·have h6:∀ L j,(Au (Ia L) (Oh n f x) (n+1) (QZ n f x 0 j)).sem=some (XI n f x b):=λL j=>by
    rcases h0 L j with ⟨_,h⟩ | ⟨b',h,h'⟩
    ·rw [h5] at h
     cases h
    ·rw [h5] at h'
     cases h';exact h
   rw [h5];exact Bn (Be hL hL) _ (AkO _ _ n f x b (A5 (h6 _ _)))
 ·cases h
end Go.Proofs.YtkbafjceglhjhaaGreatDoor.Sh
namespace Go.Proofs.YtkbafjceglhjhaaGreatDoor.Sh
open Go.Sy Ed
inductive Begin (p:Nat->Bool) (n:Nat):Nat->Prop
 | none:(∀ k,k<n->p k=false)->Begin p n 0
 | last:0<n->p (n-1)=true->Begin p n 0
 | first {z:Nat}:0<z->z<n->p (z-1)=true->(∀ k,k<z-1->p k=false)->p (n-1)=false->Begin p n z
theorem Hx {p:Nat->Bool}:∀ {k:Nat},(∀ i,i<k->p i=false)->Ak p k=0
 | 0,_=>rfl
 | k+1,h=>by rw [BZ (h k (Nat.lt_succ_self k)),Hx λi hi=>h i (by omega)]
theorem LY (p:Nat->Bool) (k:Nat):Ak p (k+1)=Ak p k ∨ Ak p (k+1)=Ak p k+1:=by
 cases h:p k with
 | true=>exact .inr (BH h)
 | false=>exact .inl (BZ h)
def FV (p:Nat->Bool) (n z t:Nat):Bool:=p ((z+t) % n)
theorem Hw {p:Nat->Bool} {n z:Nat}:∀ {t:Nat},z+t <= n->Ak (FV p n z) t+Ak p z=Ak p (z+t)
 | 0,_=>by simp [Ak]
 | t+1,h=>by
  have ih:=Hw (p:=p) (n:=n) (z:=z) (t:=t) (by omega);have he:FV p n z t=p (z+t):=by unfold FV; rw [Nat.mod_eq_of_lt (by omega)]
  rw [show z+(t+1)=z+t+1 by omega];cases hp:p (z+t) with
  | true=>rw [BH (he.trans hp),BH hp]; omega
  | false=>rw [BZ (he.trans hp),BZ hp]; exact ih
theorem QC {p:Nat->Bool} {n z:Nat} (hz:z <= n):∀ {i:Nat},i <= z->Ak (FV p n z) (n-z+i)+Ak p z=Ak p n+Ak p i
 | 0,_=>by
  have:=Hw (p:=p) (n:=n) (z:=z) (t:=n-z) (by omega);rw [show z+(n-z)=n by omega] at this;simpa [Ak] using this
 | i+1,h=>by
  have ih:=QC (p:=p) (n:=n) (z:=z) hz (i:=i) (by omega);have he:FV p n z (n-z+i)=p i:=by
   unfold FV;rw [show z+(n-z+i)=i+n by omega,Nat.add_mod_right,Nat.mod_eq_of_lt (by omega)]
  rw [show n-z+(i+1)=n-z+i+1 by omega];cases hp:p i with
  | true=>rw [BH (he.trans hp),BH hp]; omega
  | false=>rw [BZ (he.trans hp),BZ hp]; exact ih
def posN (n z i:Nat):Nat:=(i+(n-z)) % n
def Bc (p:Nat->Bool) (n k:Nat):Nat:=if Ak p k=Ak p n then 0 else Ak p k
theorem FC {p:Nat->Bool} {n k:Nat} (h:k<n):A7 p n k=Int.ofNat (Bc p n k):=by
 unfold A7 Bc;rw [show decide (k<n)=true by simpa using h];simp only [cond_true];by_cases he:Ak p k=Ak p n
 ·simp [he]
 ·simp [he]
def snN (p:Nat->Bool) (n z v:Nat):Nat:=if z=0 then v else if v=0 then Ak p n-1 else v-1
theorem Aey {p:Nat->Bool} {n z:Nat} (hb:Begin p n z) {i:Nat} (hi:i<n):Ak (FV p n z) (posN n z i)=snN p n z (Bc p n i):=by
 have hmi:=Bf p (show i <= n by omega);cases hb with
 | none h0 =>
  have h1:Ak p n=0:=Hx h0;have h2:posN n 0 i=i:=by unfold posN; rw [Nat.sub_zero,Nat.add_mod_right,Nat.mod_eq_of_lt hi]
  have h3:=Hw (p:=p) (n:=n) (z:=0) (t:=i) (by omega);rw [Nat.zero_add] at h3;rw [h2];unfold snN Bc;rw [if_pos rfl,h1];simp [Ak] at h3;rw [h3];split <;> omega
 | last hn h0 =>
  have h2:posN n 0 i=i:=by unfold posN; rw [Nat.sub_zero,Nat.add_mod_right,Nat.mod_eq_of_lt hi]
  have h3:=Hw (p:=p) (n:=n) (z:=0) (t:=i) (by omega);rw [Nat.zero_add] at h3;have h4:Ak p n=Ak p (n-1)+1:=by
   have:=BH h0;rwa [show n-1+1=n by omega] at this
  have h5:=Bf p (show i <= n-1 by omega);rw [h2];unfold snN Bc;rw [if_pos rfl];simp [Ak] at h3;rw [h3,if_neg (by omega)]
 | first hz hzn h0 h1 h2 =>
  have c0:Ak p (z-1)=0:=Hx h1;have c1:Ak p z=1:=by
   have:=BH h0;rwa [show z-1+1=z by omega,c0] at this
  have hK:=Bf p (show z <= n by omega);unfold snN Bc;rw [if_neg (by omega)];rcases Nat.lt_or_ge i z with hc | hc
  ·have e1:posN n z i=n-z+i:=by unfold posN; rw [Nat.mod_eq_of_lt (by omega)]; omega
   have e2:=QC (p:=p) (n:=n) (z:=z) (by omega) (i:=i) (by omega);have e3:Ak p i=0:=Hx λk hk=>h1 k (by omega);have e4:(if Ak p i=Ak p n then 0 else Ak p i)=0:=by split <;> omega
   rw [e1,if_pos e4];omega
  ·have e1:posN n z i=i-z:=by unfold posN; rw [show i+(n-z)=i-z+n by omega,Nat.add_mod_right,Nat.mod_eq_of_lt (by omega)]
   have e2:=Hw (p:=p) (n:=n) (z:=z) (t:=i-z) (by omega);rw [show z+(i-z)=i by omega] at e2;have e3:=Bf p hc;rw [e1];by_cases he:Ak p i=Ak p n
   ·rw [if_pos he,if_pos rfl]; omega
   ·rw [if_neg he,if_neg (by omega:¬ Ak p i=0)]; omega
theorem Aaa {p:Nat->Bool} {n z u v:Nat} (hu:u <= v) (hv:v=0 ∨ v<Ak p n) (h:snN p n z u=snN p n z v):u=v:=by
 unfold snN at h;split at h
 ·exact h
 ·split at h <;> split at h <;> omega
def rN (p:Nat->Bool) (n:Nat):Nat->Nat
 | 0=>0
 | b+1=>if Bc p n b<rN p n b then rN p n b else rN p n b+1
theorem NQ {p:Nat->Bool} {n k:Nat} (h:k <= n):Bc p n k=0 ∨ Bc p n k<Ak p n:=by
 have:=Bf p h;unfold Bc;split
 ·exact .inl rfl
 ·exact .inr (by omega)
theorem AaE (p:Nat->Bool) (n:Nat):Bc p n 0=0:=by
 have h:Ak p 0=0:=rfl;unfold Bc;split
 ·rfl
 ·exact h
theorem Aa5 (p:Nat->Bool) (n:Nat):∀ b,b<n->rN p n (b+1)=if Ak p b=Ak p n then max (Ak p n) 1 else Ak p b+1
 | 0,h=>by
  have h1:rN p n (0+1)=1:=by
   rw [rN,AaE];simp [rN]
  have h2:Ak p 0=0:=rfl;rw [h1,h2];split <;> omega
 | b+1,h=>by
  have ih:=Aa5 p n b (by omega);have h1:=Bf p (show b+1 <= n by omega);have h2:=Bf p (show b <= n by omega);have h3:=Bf p (show b <= b+1 by omega);have h4:=LY p b;rw [rN,ih];unfold Bc;by_cases e1:Ak p (b+1)=Ak p n
  ·rw [if_pos e1,if_pos e1]
   by_cases e2:Ak p b=Ak p n
   ·rw [if_pos e2,if_pos (by omega)]
   ·rw [if_neg e2,if_pos (by omega)]; omega
  ·rw [if_neg e1,if_neg e1]
   have e2:¬ Ak p b=Ak p n:=by omega
   rw [if_neg e2];split <;> omega
theorem MW (p:Nat->Bool) (n:Nat):∀ b,b<n->Bc p n b <= rN p n b
 | 0,h=>by
  rw [AaE];exact Nat.zero_le _
 | b+1,h=>by
  rw [Aa5 p n b (by omega)];have h1:=Bf p (show b+1 <= n by omega);have h4:=LY p b;have h3:=Bf p (show b <= b+1 by omega);unfold Bc;split
  ·omega
  ·split <;> omega
theorem To (p:Nat->Bool) (n:Nat):∀ b,rN p n b <= b
 | 0=>Nat.le_refl _
 | b+1=>by
  have:=To p n b;simp only [rN];split <;> omega
theorem AgH (p:Nat->Bool) (n:Nat):∀ b,b <= n->∀ v,v<rN p n b->v=0 ∨ v<Ak p n
 | 0,_,v,h=>by simp [rN] at h
 | b+1,hb,v,h=>by
  have ih:=AgH p n b (by omega) v;simp only [rN] at h;split at h
  ·exact ih h
  ·rename_i h2
   have h3:=MW p n b (by omega);by_cases hv:v<rN p n b
   ·exact ih hv
   ·have:v=Bc p n b:=by omega
    rw [this];exact NQ (by omega)
end Go.Proofs.YtkbafjceglhjhaaGreatDoor.Sh
