/-
  The document's parts, threads, locations: the part of each edge. No conditions.
-/
import Derived.Test.YtkbafjceglhjhaaGreatDoorCyO
namespace Go.Proofs.YtkbafjceglhjhaaGreatDoor.Ed
set_option maxHeartbeats 4000000
open Go.Sy
open Int (ofNat)
def QZ (n:Nat) (p:Nat->Bool):Lp:=⟨bmK 57 0 [0,3,4,5],2,bmK 57 0 [0,3,4],2,n+1⟩
def Um (n:Nat) (p:Nat->Bool) (s:Int) (i:Nat) (h:Nat->Int) (j:Nat->V):St:=⟨jsV 57 0 j [(0,.sl 1 n (λk=>bV (p k))),(3,.ref 1),(4,iV s),(5,nV i)],[.row 3 1 0 Aa,.row 3 1 i (λk=>iV (h k))]⟩
def GA (n:Nat) (p:Nat->Bool) (s:Int) (i:Nat) (h:Nat->Int):Ex×St:=(.ex 0,⟨jsV 57 0 Aa [(0,.sl 1 n (λk=>bV (p k))),(3,.ref 1),(4,iV s)],[.row 3 1 0 Aa,.row 3 1 i (λk=>iV (h k))]⟩)
noncomputable def Fl (L:LT):St->T (Ex×St):=λst=>AA tab ⟨Aw tb0,L,Gl⟩ (As Tryz.f185 0) 0 st
section
variable (L:LT) (n:Nat) (p:Nat->Bool) (s:Int) (i:Nat) (h:Nat->Int)  (j:Nat->V)
include L n p s i h j
theorem Al9 (h0:ilt (ofNat i) (ofNat n)=false):Au (Fl L) (QZ n p) (Um n p s i h j)=some ((.ex 0),⟨jsV 57 0 Aa [(0,.sl 1 n (λk=>bV (p k))),(3,.ref 1),(4,iV s)],[.row 3 1 0 Aa,.row 3 1 i (λk=>iV (h k))]⟩):=by
 exact Ae (ks:=[kn h0]) (by kernel_rfl)
theorem Al7 (h0:ilt (ofNat i) (ofNat n)=true) (h2:Bs i 1 8=true) (h1:Al (ile 0 (ofNat i)) (ilt (ofNat i) (ofNat n))=true) (h3:p i=true):Au (Fl L) (QZ n p) (Um n p s i h j)=some (.nm,⟨jsV 57 0 Aa [(0,.sl 1 n (λk=>bV (p k))),(3,.ref 1),(4,iV (wr .i64 (Ai s 1))),(5,iV (wr .i64 (Ai (ofNat i) 1)))],[.row 3 1 0 Aa,.row 3 1 (AE i 1) (AD i (λk=>iV (h k)) (iV s))]⟩):=by
 exact Ae (ks:=[kn h0,kn h2,kn h1,kn h3]) (by kernel_rfl)
theorem Al8 (h0:ilt (ofNat i) (ofNat n)=true) (h2:Bs i 1 8=true) (h1:Al (ile 0 (ofNat i)) (ilt (ofNat i) (ofNat n))=true) (h3:p i=false):Au (Fl L) (QZ n p) (Um n p s i h j)=some (.nm,⟨jsV 57 0 Aa [(0,.sl 1 n (λk=>bV (p k))),(3,.ref 1),(4,iV s),(5,iV (wr .i64 (Ai (ofNat i) 1)))],[.row 3 1 0 Aa,.row 3 1 (AE i 1) (AD i (λk=>iV (h k)) (iV s))]⟩):=by
 exact Ae (ks:=[kn h0,kn h2,kn h1,kn h3]) (by kernel_rfl)
end
def Je (n:Nat) (p:Nat->Bool) :St:=⟨jsV 57 0 (λ_=>AK) [(0,.sl 1 n (λk=>bV (p k))),(2,.ref 0),(3,.ref 1),(4,iV 0),(5,iV 0)],[.row 3 1 0 Aa,.row 3 1 0 Aa]⟩
def Li (n:Nat) (p:Nat->Bool):Lp:=⟨bmK 57 0 [0,3,7],2,bmK 57 0 [3],2,n+1⟩
def KT (n:Nat) (p:Nat->Bool) (d:Int) (g:Nat->Int) (j:Nat->V):St:=⟨jsV 57 0 j [(0,.sl 1 n (λk=>bV (p k))),(3,.ref 1),(7,iV d)],[.row 3 1 0 Aa,.row 3 1 n (λk=>iV (g k))]⟩
def L9 (n:Nat) (p:Nat->Bool) (d:Int) (g:Nat->Int):Ex×St:=(.ex 2,⟨jsV 57 0 Aa [(3,.ref 1)],[.row 3 1 0 Aa,.row 3 1 n (λk=>iV (g k))]⟩)
noncomputable def HW (L:LT):St->T (Ex×St):=λst=>AA tab ⟨Aw tb0,L,Gl⟩ (As Tryz.f185 2) 2 st
section
variable (L:LT) (n:Nat) (p:Nat->Bool) (d:Int) (g:Nat->Int)  (j:Nat->V)
include L n p d g j
theorem Alh (h0:ile 0 d=false):Au (HW L) (Li n p) (KT n p d g j)=some ((.ex 2),⟨jsV 57 0 Aa [(3,.ref 1)],[.row 3 1 0 Aa,.row 3 1 n (λk=>iV (g k))]⟩):=by
 exact Ae (ks:=[kn h0,kn h0,kn h0,kn h0,kn h0,kn h0,kF]) (by kernel_rfl)
theorem Alg (h0:ile 0 d=true) (h1:Al (ile 0 d) (ilt d (ofNat n))=true) (h3:p (toN d)=true):Au (HW L) (Li n p) (KT n p d g j)=some ((.ex 2),⟨jsV 57 0 Aa [(3,.ref 1)],[.row 3 1 0 Aa,.row 3 1 n (λk=>iV (g k))]⟩):=by
 exact Ae (ks:=[kn h0,kn h0,kn h0,kn h1,kn h0,kn h0,kn h0,kN (kn h3)]) (by kernel_rfl)
theorem Alf (h0:ile 0 d=true) (h1:Al (ile 0 d) (ilt d (ofNat n))=true) (h3:p (toN d)=false) (h2:nlt (toN d) n=true):Au (HW L) (Li n p) (KT n p d g j)=some (.nm,⟨jsV 57 0 Aa [(0,.sl 1 n (λk=>bV (p k))),(3,.ref 1),(7,iV (wr .i64 (Bz d 1)))],[.row 3 1 0 Aa,.row 3 1 n (BD (λk=>iV (g k)) (toN d) (iV 0))]⟩):=by
 exact Ae (ks:=[kn h0,kn h0,kn h0,kn h1,kn h0,kn h0,kn h0,kN (kn h3),kn h1,kn h2]) (by kernel_rfl)
end
def Ah1 (n:Nat) (p:Nat->Bool) (s:Int) (g:Nat->Int):Nat->V:=lkU 144110790046121766 [(4,iV s),(6,nV n),(24,.sl 1 n (λk=>bV (p k))),(25,nV n),(26,nV n),(27,bV (ilt 0 (ofNat n))),(28,bV (ilt 0 (ofNat n))),(29,iV s),(30,bV (ilt 0 s)),(31,bV (ilt 0 s)),(32,bV (ilt 0 s)),(33,.sl 1 n (λk=>bV (p k))),(34,nV n),(35,iV (wr .i64 (Bz (ofNat n) 1))),(36,.pp (bV (p (toN (wr .i64 (Bz (ofNat n) 1)))))),(37,bV (p (toN (wr .i64 (Bz (ofNat n) 1))))),(38,bV (AQ (p (toN (wr .i64 (Bz (ofNat n) 1)))))),(39,bV (AQ (p (toN (wr .i64 (Bz (ofNat n) 1)))))),(40,nV n),(41,iV (wr .i64 (Bz (ofNat n) 1)))]
section
variable (L:LT) (p0:PT) (n:Nat) (p:Nat->Bool) (s:Int) (g:Nat->Int)
include L p0 n p s g
theorem AjX (h0:ilt 0 (ofNat n)=false) (hp0:p0 (Fl (onP 0 p0 (GA n p s n g) L)) (Je n p)=true):(A0 (Aj tab ⟨Aw tb0,onP 0 p0 (GA n p s n g) L,Gl⟩ Tryz.f185 [.sl 1 n (λk=>bV (p k))] [])).sem=some ((.ref 0),[.row 3 1 n (λk=>iV (g k))]):=by
 exact Ae (ks:=[kn hp0,kn h0,kn h0,kn h0,kF,kF,kF,kF,kF,kF,kF,kF]) (by kernel_rfl)
theorem AjW (h0:ilt 0 (ofNat n)=true) (h1:ilt 0 s=false) (hp0:p0 (Fl (onP 0 p0 (GA n p s n g) L)) (Je n p)=true):(A0 (Aj tab ⟨Aw tb0,onP 0 p0 (GA n p s n g) L,Gl⟩ Tryz.f185 [.sl 1 n (λk=>bV (p k))] [])).sem=some ((.ref 0),[.row 3 1 n (λk=>iV (g k))]):=by
 exact Ae (ks:=[kn hp0,kn h0,kn h0,kn h0,kn h1,kn h1,kn h1,kn h1,kn h1,kn h1,kn h1,kF]) (by kernel_rfl)
theorem AjV (h0:ilt 0 (ofNat n)=true) (h1:ilt 0 s=true) (h2:Al (ile 0 (wr .i64 (Bz (ofNat n) 1))) (ilt (wr .i64 (Bz (ofNat n) 1)) (ofNat n))=true) (h3:p (toN (wr .i64 (Bz (ofNat n) 1)))=true) (hp0:p0 (Fl (onP 0 p0 (GA n p s n g) L)) (Je n p)=true):(A0 (Aj tab ⟨Aw tb0,onP 0 p0 (GA n p s n g) L,Gl⟩ Tryz.f185 [.sl 1 n (λk=>bV (p k))] [])).sem=some ((.ref 0),[.row 3 1 n (λk=>iV (g k))]):=by
 exact Ae (ks:=[kn hp0,kn h0,kn h0,kn h0,kn h1,kn h1,kn h1,kn h1,kn h2,kn h1,kn h1,kn h1,kN (kn h3)]) (by kernel_rfl)
end
theorem AjU (L:LT) (p0:PT) (p2:PT) (n:Nat) (p:Nat->Bool) (s:Int) (g:Nat->Int) (d:Int) (u:Nat->Int) (h0:ilt 0 (ofNat n)=true) (h1:ilt 0 s=true) (h2:Al (ile 0 (wr .i64 (Bz (ofNat n) 1))) (ilt (wr .i64 (Bz (ofNat n) 1)) (ofNat n))=true) (h3:p (toN (wr .i64 (Bz (ofNat n) 1)))=false) (hp0:p0 (Fl (onP 0 p0 (GA n p s n g) (onP 2 p2 (L9 n p d u) L))) (Je n p)=true) (hp2:p2 (HW (onP 0 p0 (GA n p s n g) (onP 2 p2 (L9 n p d u) L))) (KT n p (wr .i64 (Bz (ofNat n) 1)) g (Ah1 n p s g))=true):(A0 (Aj tab ⟨Aw tb0,onP 0 p0 (GA n p s n g) (onP 2 p2 (L9 n p d u) L),Gl⟩ Tryz.f185 [.sl 1 n (λk=>bV (p k))] [])).sem=some ((.ref 0),[.row 3 1 n (λk=>iV (u k))]):=by
 exact Ae (ks:=[kn hp0,kn h0,kn h0,kn h0,kn h1,kn h1,kn h1,kn h1,kn h2,kn h1,kn h1,kn h1,kN (kn h3),kn hp2]) (by kernel_rfl)
theorem U3 (p:Nat->Bool) (i:Nat):AD i (λk=>iV (Do p i k)) (iV (ofNat (Ak p i)))=λk=>iV (Do p (i+1) k):=by
 funext k;rw [Br,show Nat.beq k i=decide (k=i) by rw [Bool.eq_iff_iff]; simp];unfold Do;by_cases h:k=i
 ·subst h; simp
 ·by_cases h2:k<i
  ·have:k<i+1:=by omega
   simp [h,h2,this]
  ·have:¬ k<i+1:=by omega
   simp [h,h2,this]
theorem By {p:Nat->Bool} {i:Nat} (h:p i=true):Ak p (i+1)=Ak p i+1:=by rw [Ak,h]
theorem BQ {p:Nat->Bool} {i:Nat} (h:p i=false):Ak p (i+1)=Ak p i:=by rw [Ak,h]
theorem WC (L:LT) (n:Nat) (p:Nat->Bool) (h8:n * 8 <= 140737488355328):∀ (e i:Nat) (j:Nat->V) (q:Nat),n=i+e->e<q ->
  (Av (Fl L) (QZ n p) q (Um n p (ofNat (Ak p i)) i (Do p i) j)).sem=some (GA n p (ofNat (Ak p n)) n (Do p n))
 | 0,i,j,q+1,h,_=>by
  have:n=i:=by omega
  subst this;exact Af (Al9 L n p _ _ _ j (A1 (Nat.le_refl _)))
 | e+1,i,j,q+1,h,h2=>by
  have hc:=B2 p i;have hl:i<n:=by omega
  have ha:Bs i 1 8=true:=FT (by omega);cases hp:p i with
  | true =>rw [Af (Al7 L n p (ofNat (Ak p i)) i (Do p i) j (ofNat_lt hl) ha (Ad hl) hp),AT,A3 hl (by omega),A3 (show Ak p i<n by omega) (by omega),<- By hp,U3 p i];exact WC L n p h8 e (i+1) Aa q (by omega) (by omega)
  | false =>rw [Af (Al8 L n p (ofNat (Ak p i)) i (Do p i) j (ofNat_lt hl) ha (Ad hl) hp),AT,A3 hl (by omega),U3 p i,<- BQ hp];exact WC L n p h8 e (i+1) Aa q (by omega) (by omega)
set_option maxHeartbeats 4000000 in
theorem Yh (L:LT) (n:Nat) (p:Nat->Bool) (hn:n <= 4611686018427387904) (hs:0<Ak p n):∀ (D:Nat) (j:Nat->V) (q:Nat),D <= n->D<q->(∀ k,D <= k->k<n->Ak p k=Ak p n) ->
  (Av (HW L) (Li n p) q (KT n p (dn D) (Do p D) j)).sem=some (L9 n p 0 (AC p n))
 | 0,j,q+1,h,_,hb=>by
  rw [<- Ij p n 0 h (λk hk=>absurd hk (Nat.not_lt_zero _)) hb];exact Af (Alh L n p (dn 0) (Do p 0) j rfl)
 | D+1,j,q+1,h,h2,hb=>by
  have hD:D<n:=by omega
  have hk:nlt D n=true:=by simpa [nlt] using hD
  cases hp:p D with
  | false =>
   have he:Ak p D=Ak p n:=by
    rw [<- BQ hp];by_cases h5:D+1=n
    ·rw [h5]
    ·exact hb (D+1) (Nat.le_refl _) (by omega)
   rw [show dn (D+1)=ofNat D from rfl,Af (Alf L n p (ofNat D) (Do p (D+1)) j (Cf D) (Ad hD) hp hk),AT,Rq (show D <= n by omega) hn,CG,show toN (ofNat D)=D from rfl,Mb];exact Yh L n p hn hs D Aa q (by omega) (by omega) λk h3 h4=>by
    by_cases h5:k=D
    ·subst h5; exact he
    ·exact hb k (by omega) h4
  | true =>
   have h6:Ak p D<Ak p n:=by
    have:=Bc p (show D+1 <= n by omega);rw [By hp] at this;omega
   rw [<- Ij p n (D+1) h (λk hk=>by have:=Bc p (show k <= D by omega); omega) hb];rw [show dn (D+1)=ofNat D from rfl];exact Af (Alg L n p (ofNat D) (Do p (D+1)) j (Cf D) (Ad hD) hp)
def TR:List (Nat×List (Nat×V)):=[(0,[(1,iV 0)])]
def ON (n:Nat) (p:Nat->Bool):List (Nat×Lp):=[(0,QZ n p),(2,Li n p)]
def Mj:List V->A5
 | [v]=>apB v λn p=>.br (Fa n) (.leaf (.ref 0,[.row 3 1 n λk=>iV (AC p n k)])) .fail
 | _=>.fail
theorem AhG (n:Nat) (p:Nat->Bool):Jd (Je n p) [(1,iV 0)]=Um n p 0 0 (λ_=>0) (λi=>nth (Je n p).t i):=by kernel_rfl
theorem Afq (n:Nat) (p:Nat->Bool) (h8:Fa n=true) :
  (A0 (Aj tab (cxZ Gl tb0 TR (ON n p)) Tryz.f185 [XD n p] [])).sem=some (.ref 0,[.row 3 1 n λk=>iV (AC p n k)]):=by
 have h8':n * 8 <= 140737488355328:=of_decide_eq_true h8;have hn:n <= 4611686018427387904:=by omega
 have hL:=J7 TR (ON n p);have h0:∀ L,(FK TR (ON n p) 0 (Fl L) (Je n p)).sem=some (GA n p (ofNat (Ak p n)) n (Do p n)):=λL=>by
  show (Av (Fl L) (QZ n p) (n+1) (Jd (Je n p) [(1,iV 0)])).sem=_;rw [AhG,<- WF p];exact WC L n p h8' n 0 _ (n+1) (by omega) (by omega)
 cases n with
 | zero =>rw [<- Sv p 0 rfl];exact AW (AX hL hL) _ (AjX _ _ 0 p _ _ rfl (A4 (h0 _)))
 | succ m =>
  have c0:ilt 0 (ofNat (m+1))=true:=by rw [show (0:Int)=ofNat 0 from rfl,Cw]; simp
  have e1:wr .i64 (Bz (ofNat (m+1)) 1)=ofNat m:=Rq (Nat.le_refl _) hn;have e2:toN (ofNat m)=m:=rfl;cases hs:ilt 0 (ofNat (Ak p (m+1))) with
  | false =>
   have hz:Ak p (m+1)=0:=by simpa [ilt] using hs
   have hw:=AW (AX hL hL) _ (AjW _ _ (m+1) p _ _ c0 hs (A4 (h0 _)));rw [<- Sv p (m+1) hz];exact hw
  | true =>
   have hz:0<Ak p (m+1):=by simpa [ilt] using hs
   have hb:Al (ile 0 (wr .i64 (Bz (ofNat (m+1)) 1))) (ilt (wr .i64 (Bz (ofNat (m+1)) 1)) (ofNat (m+1)))=true:=by rw [e1]; exact Ad (Nat.lt_succ_self m)
   cases hp:p m with
   | true =>have hw:=AW (AX hL hL) _ (AjV _ _ (m+1) p _ _ c0 hs hb (by rw [e1,e2]; exact hp) (A4 (h0 _)));rw [<- Ij p (m+1) (m+1) (Nat.le_refl _) (λk hk=>by have:=Bc p (show k <= m by omega); rw [By hp]; omega) (λk h1 h2=>by omega)];exact hw
   | false =>have h2:=λL j=>Yh L (m+1) p hn hz (m+1) j (m+2) (Nat.le_refl _) (by omega) (λk h1 h2=>by omega);rw [show dn (m+1)=ofNat m from rfl,<- e1] at h2;exact AW (AX (AX hL hL) hL) _ (AjU _ _ _ (m+1) p _ (Do p (m+1)) 0 (AC p (m+1)) c0 hs hb (by rw [e1,e2]; exact hp) (A4 (h0 _)) (A4 (h2 _ _)))
theorem Asv:Ap Tryz.prog Gl 185 Mj:=by
 refine Ah A2 mixed Tryz.func185 (by kernel_rfl) (by kernel_rfl) λvs v h' h=>?_;unfold Mj at h;split at h
 ·rename_i u
  obtain ⟨n,p,ha,h1⟩:=AeI h;obtain ⟨h8,hq⟩:=Ac h1;have:=Ab hq;simp only [Prod.mk.injEq] at this;obtain ⟨rfl,rfl⟩:=this;have hA:Ba [u] [XD n p]:=λS w cs hv=>by
   obtain ⟨c,l,rfl,q1,q2⟩:=hv;exact ⟨c,l,rfl,ha S w c q1,q2⟩
  have hx:=Tz Ca TR (ON n p);exact ⟨_,cxZ Gl tb0 TR (ON n p),_,hA,rfl,hx.1,hx.2,Afq n p h8,Am.refl _⟩
 ·cases h
theorem E7 {n:Nat}:Cj [.row 3 1 n (λ_=>iV 0)]=true:=by
 simp [Cj,MJ,iV]
noncomputable def Wg:A7:=(152,BX λe=>bV (AB e))::(153,BX λe=>bV (AH e))::(185,Mj)::[]
theorem XW:Ao Tryz.prog Gl Wg:=.cons p60 <| .cons p61 <| .cons Asv .nil
def JP (p:Nat->Bool) (i k:Nat):Bool:=decide (k<i) && p k
theorem Aca (p:Nat->Bool):JP p 0=λ_=>false:=by
 funext k;simp [JP]
theorem QJ (p:Nat->Bool) (i:Nat):AD i (λk=>bV (JP p i k)) (bV (p i))=λk=>bV (JP p (i+1) k):=by
 funext k;rw [Br,show Nat.beq k i=decide (k=i) by rw [Bool.eq_iff_iff]; simp];unfold JP;by_cases h:k=i
 ·subst h; simp
 ·by_cases h2:k<i
  ·have:k<i+1:=by omega
   simp [h,h2,this]
  ·have:¬ k<i+1:=by omega
   simp [h,h2,this]
theorem CB {p q:Nat->Bool}:∀ k,(∀ i,i<k->q i=p i)->Ak q k=Ak p k
 | 0,_=>rfl
 | k+1,h=>by
  rw [Ak,Ak,h k (Nat.lt_succ_self k),CB k λi hi=>h i (by omega)]
theorem O7 (p:Nat->Bool) (n:Nat):AC (JP p n) n=AC p n:=by
 have hq:∀ i,i<n->JP p n i=p i:=λi hi=>by simp [JP,hi]
 funext k;unfold AC;by_cases h:k<n
 ·rw [CB k λi hi=>hq i (by omega),CB n hq]
 ·simp [h]
theorem Kv {n:Nat} (h:Ct n=true):n * 8 <= 140737488355328:=of_decide_eq_true (G8 h)
def UK (n:Nat) (f:Nat->E6):Lp:=⟨bmK 21 0 [0,3,4],2,bmK 21 0 [3],2,n+1⟩
def AfS (n:Nat) (f:Nat->E6) (i:Nat) (h:Nat->Bool) (j:Nat->V):St:=⟨jsV 21 0 j [(0,.sl 6 n (λi=>eV (f i))),(3,.ref 1),(4,nV i)],[.row 3 1 0 Aa,.row 4 1 i (λk=>bV (h k))]⟩
def Zd (n:Nat) (f:Nat->E6) (i:Nat) (h:Nat->Bool):Ex×St:=(.ex 0,⟨jsV 21 0 Aa [(3,.ref 1)],[.row 3 1 0 Aa,.row 4 1 i (λk=>bV (h k))]⟩)
noncomputable def MG (L:LT):St->T (Ex×St):=λst=>AA tab ⟨Aw Wg,L,Gl⟩ (As Tryz.f154 0) 0 st
section
variable (L:LT) (n:Nat) (f:Nat->E6) (i:Nat) (h:Nat->Bool)  (j:Nat->V)
include L n f i h j
theorem Ao7 (h0:ilt (ofNat i) (ofNat n)=false):Au (MG L) (UK n f) (AfS n f i h j)=some ((.ex 0),⟨jsV 21 0 Aa [(3,.ref 1)],[.row 3 1 0 Aa,.row 4 1 i (λk=>bV (h k))]⟩):=by
 exact Ae (ks:=[kn h0]) (by kernel_rfl)
theorem Ao6 (h0:ilt (ofNat i) (ofNat n)=true) (h1:Al (ile 0 (ofNat i)) (ilt (ofNat i) (ofNat n))=true) (h2:Bs i 1 1=true):Au (MG L) (UK n f) (AfS n f i h j)=some (.nm,⟨jsV 21 0 Aa [(0,.sl 6 n (λi=>eV (f i))),(3,.ref 1),(4,iV (wr .i64 (Ai (ofNat i) 1)))],[.row 3 1 0 Aa,.row 4 1 (AE i 1) (AD i (λk=>bV (h k)) (bV (AB (f i))))]⟩):=by
 exact Ae (ks:=[kn h0,kn h1,kn h2]) (by kernel_rfl)
end
def Vx (n:Nat) (f:Nat->E6) :St:=⟨jsV 21 0 (λ_=>AK) [(0,.sl 6 n (λi=>eV (f i))),(2,.ref 0),(3,.ref 1),(4,iV 0)],[.row 3 1 0 Aa,.row 4 1 0 Aa]⟩
theorem Ari (L:LT) (p0:PT) (n:Nat) (f:Nat->E6) (q:Nat->Bool) (h0:Fa n=true) (h10:Cj [.row 3 1 n (λ_=>iV 0)]=true) (hp0:p0 (MG (onP 0 p0 (Zd n f n q) L)) (Vx n f)=true):(A0 (Aj tab ⟨Aw Wg,onP 0 p0 (Zd n f n q) L,Gl⟩ Tryz.f154 [AI n f] [])).sem=some ((.ref 0),[.row 3 1 n (λk=>iV (AC q n k))]):=by
 exact Ae (ks:=[kn hp0,kL n,kn h0,kn h10]) (by kernel_rfl)
theorem Ai3 (L:LT) (n:Nat) (f:Nat->E6) (h8:n * 8 <= 140737488355328):∀ (e i:Nat) (j:Nat->V) (q:Nat),n=i+e->e<q ->
  (Av (MG L) (UK n f) q (AfS n f i (JP (λk=>AB (f k)) i) j)).sem=some (Zd n f n (JP (λk=>AB (f k)) n))
 | 0,i,j,q+1,h,_=>by
  have:n=i:=by omega
  subst this;exact Af (Ao7 L n f _ _ j (A1 (Nat.le_refl _)))
 | e+1,i,j,q+1,h,h2=>by
  have hl:i<n:=by omega
  have ha:Bs i 1 1=true:=FT (by omega);rw [Af (Ao6 L n f i (JP (λk=>AB (f k)) i) j (ofNat_lt hl) (Ad hl) ha),AT,A3 hl (by omega)];have:=QJ (λk=>AB (f k)) i;rw [this];exact Ai3 L n f h8 e (i+1) Aa q (by omega) (by omega)
def Afj:List (Nat×List (Nat×V)):=[(0,[(1,bV false)])]
theorem Amy (n:Nat) (f:Nat->E6):Jd (Vx n f) [(1,bV false)]=AfS n f 0 (λ_=>false) (λi=>nth (Vx n f).t i):=by kernel_rfl
def Sx:List V->A5:=Hy λn f=>.br (Ct n) (.leaf (.ref 0,[.row 3 1 n λk=>iV (AC (λk=>AB (f k)) n k)])) .fail
theorem p94:Ap Tryz.prog Gl 154 Sx:=by
 refine Ah A2 mixed Tryz.func154 (by kernel_rfl) (by kernel_rfl) λvs v h' h=>?_;obtain ⟨n,f,ha,h1⟩:=CM h;obtain ⟨hn,hq⟩:=Ac h1;have:=Ab hq;simp only [Prod.mk.injEq] at this;obtain ⟨rfl,rfl⟩:=this;have hx:=Tz XW Afj [(0,UK n f)];have hL:=J7 Afj [(0,UK n f)];have h0:∀ L,(FK Afj [(0,UK n f)] 0 (MG L) (Vx n f)).sem=some (Zd n f n (JP (λk=>AB (f k)) n)):=λL=>by
  show (Av (MG L) (UK n f) (n+1) (Jd (Vx n f) [(1,bV false)])).sem=_;rw [Amy,<- Aca (λk=>AB (f k))];exact Ai3 L n f (Kv hn) n 0 _ (n+1) (by omega) (by omega)
 have hw:=AW (AX hL hL) _ (Ari _ _ n f _ (G8 hn) E7 (A4 (h0 _)));rw [O7 (λk=>AB (f k)) n] at hw;exact ⟨_,cxZ Gl Wg Afj [(0,UK n f)],_,ha,rfl,hx.1,hx.2,hw,Am.refl _⟩
def UJ (n:Nat) (f:Nat->E6):Lp:=⟨bmK 21 0 [0,3,4],2,bmK 21 0 [3],2,n+1⟩
def AfR (n:Nat) (f:Nat->E6) (i:Nat) (h:Nat->Bool) (j:Nat->V):St:=⟨jsV 21 0 j [(0,.sl 6 n (λi=>eV (f i))),(3,.ref 1),(4,nV i)],[.row 3 1 0 Aa,.row 4 1 i (λk=>bV (h k))]⟩
def Zc (n:Nat) (f:Nat->E6) (i:Nat) (h:Nat->Bool):Ex×St:=(.ex 0,⟨jsV 21 0 Aa [(3,.ref 1)],[.row 3 1 0 Aa,.row 4 1 i (λk=>bV (h k))]⟩)
noncomputable def MF (L:LT):St->T (Ex×St):=λst=>AA tab ⟨Aw Wg,L,Gl⟩ (As Tryz.f155 0) 0 st
section
variable (L:LT) (n:Nat) (f:Nat->E6) (i:Nat) (h:Nat->Bool)  (j:Nat->V)
include L n f i h j
theorem Ao5 (h0:ilt (ofNat i) (ofNat n)=false):Au (MF L) (UJ n f) (AfR n f i h j)=some ((.ex 0),⟨jsV 21 0 Aa [(3,.ref 1)],[.row 3 1 0 Aa,.row 4 1 i (λk=>bV (h k))]⟩):=by
 exact Ae (ks:=[kn h0]) (by kernel_rfl)
theorem Ao4 (h0:ilt (ofNat i) (ofNat n)=true) (h1:Al (ile 0 (ofNat i)) (ilt (ofNat i) (ofNat n))=true) (h2:Bs i 1 1=true):Au (MF L) (UJ n f) (AfR n f i h j)=some (.nm,⟨jsV 21 0 Aa [(0,.sl 6 n (λi=>eV (f i))),(3,.ref 1),(4,iV (wr .i64 (Ai (ofNat i) 1)))],[.row 3 1 0 Aa,.row 4 1 (AE i 1) (AD i (λk=>bV (h k)) (bV (AH (f i))))]⟩):=by
 exact Ae (ks:=[kn h0,kn h1,kn h2]) (by kernel_rfl)
end
def Vw (n:Nat) (f:Nat->E6) :St:=⟨jsV 21 0 (λ_=>AK) [(0,.sl 6 n (λi=>eV (f i))),(2,.ref 0),(3,.ref 1),(4,iV 0)],[.row 3 1 0 Aa,.row 4 1 0 Aa]⟩
theorem Arh (L:LT) (p0:PT) (n:Nat) (f:Nat->E6) (q:Nat->Bool) (h0:Fa n=true) (h10:Cj [.row 3 1 n (λ_=>iV 0)]=true) (hp0:p0 (MF (onP 0 p0 (Zc n f n q) L)) (Vw n f)=true):(A0 (Aj tab ⟨Aw Wg,onP 0 p0 (Zc n f n q) L,Gl⟩ Tryz.f155 [AI n f] [])).sem=some ((.ref 0),[.row 3 1 n (λk=>iV (AC q n k))]):=by
 exact Ae (ks:=[kn hp0,kL n,kn h0,kn h10]) (by kernel_rfl)
theorem Ai2 (L:LT) (n:Nat) (f:Nat->E6) (h8:n * 8 <= 140737488355328):∀ (e i:Nat) (j:Nat->V) (q:Nat),n=i+e->e<q ->
  (Av (MF L) (UJ n f) q (AfR n f i (JP (λk=>AH (f k)) i) j)).sem=some (Zc n f n (JP (λk=>AH (f k)) n))
 | 0,i,j,q+1,h,_=>by
  have:n=i:=by omega
  subst this;exact Af (Ao5 L n f _ _ j (A1 (Nat.le_refl _)))
 | e+1,i,j,q+1,h,h2=>by
  have hl:i<n:=by omega
  have ha:Bs i 1 1=true:=FT (by omega);rw [Af (Ao4 L n f i (JP (λk=>AH (f k)) i) j (ofNat_lt hl) (Ad hl) ha),AT,A3 hl (by omega)];have:=QJ (λk=>AH (f k)) i;rw [this];exact Ai2 L n f h8 e (i+1) Aa q (by omega) (by omega)
def Afi:List (Nat×List (Nat×V)):=[(0,[(1,bV false)])]
theorem Amx (n:Nat) (f:Nat->E6):Jd (Vw n f) [(1,bV false)]=AfR n f 0 (λ_=>false) (λi=>nth (Vw n f).t i):=by kernel_rfl
def Sw:List V->A5:=Hy λn f=>.br (Ct n) (.leaf (.ref 0,[.row 3 1 n λk=>iV (AC (λk=>AH (f k)) n k)])) .fail
theorem p95:Ap Tryz.prog Gl 155 Sw:=by
 refine Ah A2 mixed Tryz.func155 (by kernel_rfl) (by kernel_rfl) λvs v h' h=>?_;obtain ⟨n,f,ha,h1⟩:=CM h;obtain ⟨hn,hq⟩:=Ac h1;have:=Ab hq;simp only [Prod.mk.injEq] at this;obtain ⟨rfl,rfl⟩:=this;have hx:=Tz XW Afi [(0,UJ n f)];have hL:=J7 Afi [(0,UJ n f)];have h0:∀ L,(FK Afi [(0,UJ n f)] 0 (MF L) (Vw n f)).sem=some (Zc n f n (JP (λk=>AH (f k)) n)):=λL=>by
  show (Av (MF L) (UJ n f) (n+1) (Jd (Vw n f) [(1,bV false)])).sem=_;rw [Amx,<- Aca (λk=>AH (f k))];exact Ai2 L n f (Kv hn) n 0 _ (n+1) (by omega) (by omega)
 have hw:=AW (AX hL hL) _ (Arh _ _ n f _ (G8 hn) E7 (A4 (h0 _)));rw [O7 (λk=>AH (f k)) n] at hw;exact ⟨_,cxZ Gl Wg Afi [(0,UJ n f)],_,ha,rfl,hx.1,hx.2,hw,Am.refl _⟩
noncomputable def tb53:A7:=(79,AlY)::(154,Sx)::(155,Sw)::[]
theorem tb53_ok:Ao Tryz.prog Gl tb53:=.cons p98 <| .cons p94 <| .cons p95 .nil
def La (g:Nat->(Nat->E6)->Nat->Int):List V->A5:=Hy λn f=>.br (Ct n) (match Di n f with
 | true=>.leaf (.tup [.ref 0,iV 0],[.row 3 1 n λk=>iV (g n f k)])
 | false=>.leaf (.tup [.ref 0,iV 30],[.row 3 1 0 λ_=>.und])) .fail
theorem p53:Ap Tryz.prog Gl 109 (La λn f=>AC (λk=>AB (f k)) n):=by
 refine Ah A2 mixed Tryz.func109 (by kernel_rfl) (by kernel_rfl) λvs v h' h=>?_;obtain ⟨n,f,ha,h1⟩:=CM h;obtain ⟨hn,hq⟩:=Ac h1;have hx:=Bh tb53_ok [];have hs:Aq n=true:=Xn (G8 hn);cases hm:Di n f with
 | true =>rw [hm] at hq;have:=Ab hq;simp only [Prod.mk.injEq] at this;obtain ⟨rfl,rfl⟩:=this;exact ⟨_,AO Gl tb53 [],_,ha,rfl,hx.1,hx.2,Ae (ks:=[kL n,kn hs,kN (kn hm),kL n,kn hn]) (by kernel_rfl)/-W:w53t-/,Am.refl _⟩
 | false =>rw [hm] at hq;have:=Ab hq;simp only [Prod.mk.injEq] at this;obtain ⟨rfl,rfl⟩:=this;exact ⟨_,AO Gl tb53 [],_,ha,rfl,hx.1,hx.2,Ae (ks:=[kL n,kn hs,kN (kn hm)]) (by kernel_rfl)/-W:w53f-/,Am.refl _⟩
theorem p54:Ap Tryz.prog Gl 110 (La λn f=>AC (λk=>AH (f k)) n):=by
 refine Ah A2 mixed Tryz.func110 (by kernel_rfl) (by kernel_rfl) λvs v h' h=>?_;obtain ⟨n,f,ha,h1⟩:=CM h;obtain ⟨hn,hq⟩:=Ac h1;have hx:=Bh tb53_ok [];have hs:Aq n=true:=Xn (G8 hn);cases hm:Di n f with
 | true =>rw [hm] at hq;have:=Ab hq;simp only [Prod.mk.injEq] at this;obtain ⟨rfl,rfl⟩:=this;exact ⟨_,AO Gl tb53 [],_,ha,rfl,hx.1,hx.2,Ae (ks:=[kL n,kn hs,kN (kn hm),kL n,kn hn]) (by kernel_rfl)/-W:w54t-/,Am.refl _⟩
 | false =>rw [hm] at hq;have:=Ab hq;simp only [Prod.mk.injEq] at this;obtain ⟨rfl,rfl⟩:=this;exact ⟨_,AO Gl tb53 [],_,ha,rfl,hx.1,hx.2,Ae (ks:=[kL n,kn hs,kN (kn hm)]) (by kernel_rfl)/-W:w54f-/,Am.refl _⟩
end Go.Proofs.YtkbafjceglhjhaaGreatDoor.Ed
namespace Go.Proofs.YtkbafjceglhjhaaGreatDoor.Sh
open Go.Sy Ed
open Int (ofNat)
theorem Aku (e:E6):(A0 (Aj tab (AO Gl [] []) Tryz.f177 [eV e] [])).sem=(sel (ieq (e).kind 1) (sel (ieq (e).kind 1) (sel (ieq (e).kind 1) (sel (ieq (e).kind 1) (some ((bV true),[])) none) none) none) (sel (ieq (e).kind 1) (sel (ieq (e).kind 1) (sel (ieq (e).kind 1) (some ((bV true),[])) none) none) (sel (ieq (e).kind 1) (sel (ieq (e).kind 1) (some ((bV true),[])) none) (sel (ieq (e).kind 1) (some ((bV true),[])) (sel (ieq (e).kind 2) (sel (ieq (e).kind 2) (sel (ieq (e).kind 2) (sel (ieq (e).kind 2) (some ((bV true),[])) (some (AK,[]))) none) none) (sel (ieq (e).kind 2) (sel (ieq (e).kind 2) (sel (ieq (e).kind 2) (some ((bV true),[])) (some (AK,[]))) none) (sel (ieq (e).kind 2) (sel (ieq (e).kind 2) (some ((bV true),[])) (some (AK,[]))) (sel (ieq (e).kind 2) (some ((bV true),[])) (some ((bV (ieq (e).kind 3)),[])))))))))):=by kernel_rfl
theorem p91:Ap Tryz.prog Gl 177 (BX λe=>bV (BJ e)):=by
 refine Ap.congr (AM A2 mixed Tryz.func177 (by kernel_rfl) (by kernel_rfl) (Γ:=AO Gl [] []) (Bh Ao.nil _)) λvs r h=>?_;obtain ⟨e,rfl,rfl⟩:=Cn h;refine (Aku e).trans ?_;rw [PC];cases ieq e.kind 1 <;> cases ieq e.kind 2 <;> cases ieq e.kind 3 <;> rfl
noncomputable def Abx:A7:=(177,BX λe=>bV (BJ e))::[]
theorem Ya:Ao Tryz.prog Gl Abx:=.cons p91 .nil
theorem Ak0 (e:E6):(A0 (Aj tab (AO Gl Abx []) Tryz.f139 [eV e] [])).sem=(sel (BJ e) (sel (BJ e) (sel (BJ e) (some ((bV (e).ext),[])) (some ((bV false),[]))) (sel (BJ e) (some (AK,[])) (some ((bV false),[])))) (sel (BJ e) none (sel (BJ e) (some (AK,[])) (some ((bV false),[]))))):=by kernel_rfl
theorem p52:Ap Tryz.prog Gl 139 (BX λe=>bV (AB e)):=by
 refine Ap.congr (AM A2 mixed Tryz.func139 (by kernel_rfl) (by kernel_rfl) (Γ:=AO Gl Abx []) (Bh Ya _)) λvs r h=>?_;obtain ⟨e,rfl,rfl⟩:=Cn h;refine (Ak0 e).trans ?_;unfold AB;cases BJ e <;> rfl
theorem Akz (e:E6):(A0 (Aj tab (AO Gl Abx []) Tryz.f141 [eV e] [])).sem=(sel (AQ (BJ e)) (sel (AQ (BJ e)) (sel (AQ (BJ e)) (sel (AQ (BJ e)) (some ((bV (AQ (e).same)),[])) (some ((bV false),[]))) (sel (AQ (BJ e)) (some (AK,[])) (some ((bV false),[])))) (sel (AQ (BJ e)) none (sel (AQ (BJ e)) (some (AK,[])) (some ((bV false),[]))))) (sel (AQ (BJ e)) none (sel (AQ (BJ e)) none (sel (AQ (BJ e)) (some (AK,[])) (some ((bV false),[])))))):=by kernel_rfl
theorem p54:Ap Tryz.prog Gl 141 (BX λe=>bV (AH e)):=by
 refine Ap.congr (AM A2 mixed Tryz.func141 (by kernel_rfl) (by kernel_rfl) (Γ:=AO Gl Abx []) (Bh Ya _)) λvs r h=>?_;obtain ⟨e,rfl,rfl⟩:=Cn h;refine (Akz e).trans ?_;unfold AH;cases BJ e <;> rfl
noncomputable def Nz (n:Nat) (f:Nat->Int) (x:Int):Int:=match (List.range n).find? λi=>ieq x (f i) with
 | some i=>ofNat i
 | none=>-1
theorem Rk {n:Nat} {f:Nat->Int} {x:Int} {i:Nat} (hi:i<n) (h:ieq x (f i)=true) (hb:∀ k,k<i->ieq x (f k)=false):Nz n f x=ofNat i:=by
 unfold Nz;have:(List.range n).find? (λi=>ieq x (f i))=some i:=by
  rw [List.find?_range_eq_some];exact ⟨h,by simpa using hi,λj hj=>by rw [hb j hj]; rfl⟩
 rw [this]
theorem Vg {n:Nat} {f:Nat->Int} {x:Int} (h:∀ k,k<n->ieq x (f k)=false):Nz n f x = -1:=by
 unfold Nz;have:(List.range n).find? (λi=>ieq x (f i))=none:=by
  rw [List.find?_eq_none];intro k hk;rw [h k (by simpa using hk)];simp
 rw [this]
def OP (n:Nat) (f:Nat->Int) (x:Int):Lp:=⟨bmK 19 0 [0,1,4,7,8],0,bmK 19 0 [4],0,n+1⟩
def RU (n:Nat) (f:Nat->Int) (x:Int) (b:Nat) (j:Nat->V):St:=⟨jsV 19 0 j [(0,.sl 1 n λk=>iV (f k)),(1,iV x),(4,iV 0),(7,nV n),(8,nV b)],[]⟩
def Ze (n:Nat) (f:Nat->Int) (x:Int) (b:Nat):Ex×St:=(.rt,⟨jsV 19 0 Aa [(4,nV b)],[]⟩)
def Zf (n:Nat) (f:Nat->Int) (x:Int) (b:Nat):Ex×St:=(.ex 0,⟨jsV 19 0 Aa [(4,iV 0)],[]⟩)
noncomputable def I2 (L:LT):St->T (Ex×St):=λst=>AA tab ⟨Aw tb0,L,Gl⟩ (As Tryz.f178 0) 0 st
section
variable (L:LT) (n:Nat) (f:Nat->Int) (x:Int) (b:Nat)  (j:Nat->V)
include L n f x b j
theorem Aol (h0:ilt (ofNat b) (ofNat n)=true) (h11:ile 0 (ofNat b)=true) (h1:ieq x (f b)=false):Au (I2 L) (OP n f x) (RU n f x b j)=some (.nm,⟨jsV 19 0 Aa [(0,.sl 1 n (λk=>iV (f k))),(1,iV x),(4,iV 0),(7,nV n),(8,iV (wr .i64 (Ai (ofNat b) 1)))],[]⟩):=by
 exact Ae (ks:=[kn h0,kA (kn h11) (kn h0),kn h1]) (by kernel_rfl)
theorem Aok (h0:ilt (ofNat b) (ofNat n)=true) (h11:ile 0 (ofNat b)=true) (h1:ieq x (f b)=true):Au (I2 L) (OP n f x) (RU n f x b j)=some (.rt,⟨jsV 19 0 Aa [(4,nV b)],[]⟩):=by
 exact Ae (ks:=[kn h0,kA (kn h11) (kn h0),kn h1]) (by kernel_rfl)
theorem Aom (h0:ilt (ofNat b) (ofNat n)=false):Au (I2 L) (OP n f x) (RU n f x b j)=some ((.ex 0),⟨jsV 19 0 Aa [(4,iV 0)],[]⟩):=by
 exact Ae (ks:=[kn h0]) (by kernel_rfl)
end
def Amo (n:Nat) (f:Nat->Int) (x:Int) :Nat->V:=lkV AK [(6,.sl 1 n (λk=>iV (f k)))]
theorem Ank (L:LT) (p0:PT) (n:Nat) (f:Nat->Int) (x:Int) (b:Nat)  (hp0:p0 (I2 (onP 0 p0 (Ze n f x b) L)) (RU n f x 0 (Amo n f x ))=true):(A0 (Aj tab ⟨Aw tb0,onP 0 p0 (Ze n f x b) L,Gl⟩ Tryz.f178 [.sl 1 n λk=>iV (f k),iV x] [])).sem=some ((nV b),[]):=by
 exact Ae (ks:=[kn hp0]) (by kernel_rfl)
theorem Anl (L:LT) (p0:PT) (n:Nat) (f:Nat->Int) (x:Int)  (hp0:p0 (I2 (onP 0 p0 (Zf n f x 0) L)) (RU n f x 0 (Amo n f x ))=true):(A0 (Aj tab ⟨Aw tb0,onP 0 p0 (Zf n f x 0) L,Gl⟩ Tryz.f178 [.sl 1 n λk=>iV (f k),iV x] [])).sem=some ((iV (-1)),[]):=by
 exact Ae (ks:=[kn hp0]) (by kernel_rfl)
theorem Ai4 (L:LT) (n:Nat) (f:Nat->Int) (x:Int) (hn:n <= 4611686018427387904):∀ (e i:Nat) (j:Nat->V) (q:Nat),n=i+e->e<q->(∀ k,k<i->ieq x (f k)=false) ->
  ((Av (I2 L) (OP n f x) q (RU n f x i j)).sem=some (Zf n f x 0)∧Nz n f x = -1) ∨ ∃ b,(Av (I2 L) (OP n f x) q (RU n f x i j)).sem=some (Ze n f x b)∧Nz n f x=ofNat b
 | 0,i,j,q+1,h,_,hb=>by
  have:n=i:=by omega
  subst this;exact .inl ⟨Af (Aom L n f x n j (A1 (Nat.le_refl _))),Vg hb⟩
 | e+1,i,j,q+1,h,h2,hb=>by
  have hl:i<n:=by omega
  cases hp:ieq x (f i) with
  | true =>exact .inr ⟨i,Af (Aok L n f x i j (ofNat_lt hl) (Cf i) hp),Rk hl hp hb⟩
  | false =>
   rw [Af (Aol L n f x i j (ofNat_lt hl) (Cf i) hp),AT,A3 hl hn];refine Ai4 L n f x hn e (i+1) Aa q (by omega) (by omega) λk hk=>?_;by_cases hki:k=i
   ·rw [hki]; exact hp
   ·exact hb k (by omega)
noncomputable def Xi:List V->A5
 | [v,.val (.int .i64 x)]=>apI v λn f=>.br (Fa n) (.leaf (iV (Nz n f x),[])) .fail
 | _=>.fail
theorem p92:Ap Tryz.prog Gl 178 Xi:=by
 refine Ah A2 mixed Tryz.func178 (by kernel_rfl) (by kernel_rfl) λvs v h' h=>?_;unfold Xi at h;split at h
 ·rename_i u x
  obtain ⟨n,f,ha,h1⟩:=El h;obtain ⟨h8,hq⟩:=Ac h1;have:=Ab hq;simp only [Prod.mk.injEq] at this;obtain ⟨rfl,rfl⟩:=this;have h8':n * 8 <= 140737488355328:=of_decide_eq_true h8;have hA:Ba [u,iV x] [F2 n f,iV x]:=λS w cs hv=>by
   obtain ⟨c,l,rfl,q1,q2⟩:=hv;exact ⟨c,l,rfl,ha S w c q1,q2⟩
  have hx:=Bh Ca [(0,OP n f x)] (G:=Gl);have hL:=Bb [(0,OP n f x)];refine ⟨_,AO Gl tb0 [(0,OP n f x)],_,hA,rfl,hx.1,hx.2,?_,Am.refl _⟩;have h0:=λL j=>Ai4 L n f x (by omega) n 0 j (n+1) (by omega) (by omega) (λk hk=>absurd hk (Nat.not_lt_zero _));rcases h0 (BC [(0,OP n f x)]) (Amo n f x) with ⟨_,h5⟩ | ⟨b,_,h5⟩
  ·have h6:∀ L j,(Av (I2 L) (OP n f x) (n+1) (RU n f x 0 j)).sem=some (Zf n f x 0):=λL j=>by
    rcases h0 L j with ⟨h,_⟩ | ⟨b,_,h⟩
    ·exact h
    ·rw [h5] at h
     cases h
   rw [h5];exact AW (AX hL hL) _ (Anl _ _ n f x (A4 (h6 _ _)))
  ·have h6:∀ L j,(Av (I2 L) (OP n f x) (n+1) (RU n f x 0 j)).sem=some (Ze n f x b):=λL j=>by
    rcases h0 L j with ⟨_,h⟩ | ⟨b',h,h'⟩
    ·rw [h5] at h
     cases h
    ·rw [h5] at h'
     cases h';exact h
   rw [h5];exact AW (AX hL hL) _ (Ank _ _ n f x b (A4 (h6 _ _)))
 ·cases h
end Go.Proofs.YtkbafjceglhjhaaGreatDoor.Sh
namespace Go.Proofs.YtkbafjceglhjhaaGreatDoor.Sh
open Go.Sy Ed
inductive Begin (p:Nat->Bool) (n:Nat):Nat->Prop
 | none:(∀ k,k<n->p k=false)->Begin p n 0
 | last:0<n->p (n-1)=true->Begin p n 0
 | first {z:Nat}:0<z->z<n->p (z-1)=true->(∀ k,k<z-1->p k=false)->p (n-1)=false->Begin p n z
theorem Gi {p:Nat->Bool}:∀ {k:Nat},(∀ i,i<k->p i=false)->Ak p k=0
 | 0,_=>rfl
 | k+1,h=>by rw [BQ (h k (Nat.lt_succ_self k)),Gi λi hi=>h i (by omega)]
theorem HQ (p:Nat->Bool) (k:Nat):Ak p (k+1)=Ak p k ∨ Ak p (k+1)=Ak p k+1:=by
 cases h:p k with
 | true=>exact .inr (By h)
 | false=>exact .inl (BQ h)
def Gq (p:Nat->Bool) (n z t:Nat):Bool:=p ((z+t) % n)
theorem HO {p:Nat->Bool} {n z:Nat}:∀ {t:Nat},z+t <= n->Ak (Gq p n z) t+Ak p z=Ak p (z+t)
 | 0,_=>by simp [Ak]
 | t+1,h=>by
  have ih:=HO (p:=p) (n:=n) (z:=z) (t:=t) (by omega);have he:Gq p n z t=p (z+t):=by unfold Gq; rw [Nat.mod_eq_of_lt (by omega)]
  rw [show z+(t+1)=z+t+1 by omega];cases hp:p (z+t) with
  | true=>rw [By (he.trans hp),By hp]; omega
  | false=>rw [BQ (he.trans hp),BQ hp]; exact ih
theorem Rw {p:Nat->Bool} {n z:Nat} (hz:z <= n):∀ {i:Nat},i <= z->Ak (Gq p n z) (n-z+i)+Ak p z=Ak p n+Ak p i
 | 0,_=>by
  have:=HO (p:=p) (n:=n) (z:=z) (t:=n-z) (by omega);rw [show z+(n-z)=n by omega] at this;simpa [Ak] using this
 | i+1,h=>by
  have ih:=Rw (p:=p) (n:=n) (z:=z) hz (i:=i) (by omega);have he:Gq p n z (n-z+i)=p i:=by
   unfold Gq;rw [show z+(n-z+i)=i+n by omega,Nat.add_mod_right,Nat.mod_eq_of_lt (by omega)]
  rw [show n-z+(i+1)=n-z+i+1 by omega];cases hp:p i with
  | true=>rw [By (he.trans hp),By hp]; omega
  | false=>rw [BQ (he.trans hp),BQ hp]; exact ih
def posN (n z i:Nat):Nat:=(i+(n-z)) % n
def Bl (p:Nat->Bool) (n k:Nat):Nat:=if Ak p k=Ak p n then 0 else Ak p k
theorem FX {p:Nat->Bool} {n k:Nat} (h:k<n):AC p n k=Int.ofNat (Bl p n k):=by
 unfold AC Bl;rw [show decide (k<n)=true by simpa using h];simp only [cond_true];by_cases he:Ak p k=Ak p n
 ·simp [he]
 ·simp [he]
def snN (p:Nat->Bool) (n z v:Nat):Nat:=if z=0 then v else if v=0 then Ak p n-1 else v-1
theorem Agr {p:Nat->Bool} {n z:Nat} (hb:Begin p n z) {i:Nat} (hi:i<n):Ak (Gq p n z) (posN n z i)=snN p n z (Bl p n i):=by
 have hmi:=Bc p (show i <= n by omega);cases hb with
 | none h0 =>
  have h1:Ak p n=0:=Gi h0;have h2:posN n 0 i=i:=by unfold posN; rw [Nat.sub_zero,Nat.add_mod_right,Nat.mod_eq_of_lt hi]
  have h3:=HO (p:=p) (n:=n) (z:=0) (t:=i) (by omega);rw [Nat.zero_add] at h3;rw [h2];unfold snN Bl;rw [if_pos rfl,h1];simp [Ak] at h3;rw [h3];split <;> omega
 | last hn h0 =>
  have h2:posN n 0 i=i:=by unfold posN; rw [Nat.sub_zero,Nat.add_mod_right,Nat.mod_eq_of_lt hi]
  have h3:=HO (p:=p) (n:=n) (z:=0) (t:=i) (by omega);rw [Nat.zero_add] at h3;have h4:Ak p n=Ak p (n-1)+1:=by
   have:=By h0;rwa [show n-1+1=n by omega] at this
  have h5:=Bc p (show i <= n-1 by omega);rw [h2];unfold snN Bl;rw [if_pos rfl];simp [Ak] at h3;rw [h3,if_neg (by omega)]
 | first hz hzn h0 h1 h2 =>
  have c0:Ak p (z-1)=0:=Gi h1;have c1:Ak p z=1:=by
   have:=By h0;rwa [show z-1+1=z by omega,c0] at this
  have hK:=Bc p (show z <= n by omega);unfold snN Bl;rw [if_neg (by omega)];rcases Nat.lt_or_ge i z with hc | hc
  ·have e1:posN n z i=n-z+i:=by unfold posN; rw [Nat.mod_eq_of_lt (by omega)]; omega
   have e2:=Rw (p:=p) (n:=n) (z:=z) (by omega) (i:=i) (by omega);have e3:Ak p i=0:=Gi λk hk=>h1 k (by omega);have e4:(if Ak p i=Ak p n then 0 else Ak p i)=0:=by split <;> omega
   rw [e1,if_pos e4];omega
  ·have e1:posN n z i=i-z:=by unfold posN; rw [show i+(n-z)=i-z+n by omega,Nat.add_mod_right,Nat.mod_eq_of_lt (by omega)]
   have e2:=HO (p:=p) (n:=n) (z:=z) (t:=i-z) (by omega);rw [show z+(i-z)=i by omega] at e2;have e3:=Bc p hc;rw [e1];by_cases he:Ak p i=Ak p n
   ·rw [if_pos he,if_pos rfl]; omega
   ·rw [if_neg he,if_neg (by omega:¬ Ak p i=0)]; omega
theorem AbD {p:Nat->Bool} {n z u v:Nat} (hu:u <= v) (hv:v=0 ∨ v<Ak p n) (h:snN p n z u=snN p n z v):u=v:=by
 unfold snN at h;split at h
 ·exact h
 ·split at h <;> split at h <;> omega
def rN (p:Nat->Bool) (n:Nat):Nat->Nat
 | 0=>0
 | b+1=>if Bl p n b<rN p n b then rN p n b else rN p n b+1
theorem Lb {p:Nat->Bool} {n k:Nat} (h:k <= n):Bl p n k=0 ∨ Bl p n k<Ak p n:=by
 have:=Bc p h;unfold Bl;split
 ·exact .inl rfl
 ·exact .inr (by omega)
theorem Acu (p:Nat->Bool) (n:Nat):Bl p n 0=0:=by
 have h:Ak p 0=0:=rfl;unfold Bl;split
 ·rfl
 ·exact h
theorem Ach (p:Nat->Bool) (n:Nat):∀ b,b<n->rN p n (b+1)=if Ak p b=Ak p n then max (Ak p n) 1 else Ak p b+1
 | 0,h=>by
  have h1:rN p n (0+1)=1:=by
   rw [rN,Acu];simp [rN]
  have h2:Ak p 0=0:=rfl;rw [h1,h2];split <;> omega
 | b+1,h=>by
  have ih:=Ach p n b (by omega);have h1:=Bc p (show b+1 <= n by omega);have h2:=Bc p (show b <= n by omega);have h3:=Bc p (show b <= b+1 by omega);have h4:=HQ p b;rw [rN,ih];unfold Bl;by_cases e1:Ak p (b+1)=Ak p n
  ·rw [if_pos e1,if_pos e1]
   by_cases e2:Ak p b=Ak p n
   ·rw [if_pos e2,if_pos (by omega)]
   ·rw [if_neg e2,if_pos (by omega)]; omega
  ·rw [if_neg e1,if_neg e1]
   have e2:¬ Ak p b=Ak p n:=by omega
   rw [if_neg e2];split <;> omega
theorem NA (p:Nat->Bool) (n:Nat):∀ b,b<n->Bl p n b <= rN p n b
 | 0,h=>by
  rw [Acu];exact Nat.zero_le _
 | b+1,h=>by
  rw [Ach p n b (by omega)];have h1:=Bc p (show b+1 <= n by omega);have h4:=HQ p b;have h3:=Bc p (show b <= b+1 by omega);unfold Bl;split
  ·omega
  ·split <;> omega
theorem U0 (p:Nat->Bool) (n:Nat):∀ b,rN p n b <= b
 | 0=>Nat.le_refl _
 | b+1=>by
  have:=U0 p n b;simp only [rN];split <;> omega
theorem AiE (p:Nat->Bool) (n:Nat):∀ b,b <= n->∀ v,v<rN p n b->v=0 ∨ v<Ak p n
 | 0,_,v,h=>by simp [rN] at h
 | b+1,hb,v,h=>by
  have ih:=AiE p n b (by omega) v;simp only [rN] at h;split at h
  ·exact ih h
  ·rename_i h2
   have h3:=NA p n b (by omega);by_cases hv:v<rN p n b
   ·exact ih hv
   ·have:v=Bl p n b:=by omega
    rw [this];exact Lb (by omega)
end Go.Proofs.YtkbafjceglhjhaaGreatDoor.Sh
