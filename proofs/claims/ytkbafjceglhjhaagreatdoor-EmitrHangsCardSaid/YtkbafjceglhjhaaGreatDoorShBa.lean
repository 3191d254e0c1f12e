/-
  The document's parts, threads, locations: the part of each edge. No conditions.
-/
import Derived.Test.YtkbafjceglhjhaaGreatDoorCyO
namespace Go.Proofs.YtkbafjceglhjhaaGreatDoor.Ed
open Go.Sy
set_option maxHeartbeats 4000000
open Int (ofNat)
def O5 (n:Nat) (p:Nat->Bool):Lp:=⟨bmK 57 0 [0,3,4,5],2,bmK 57 0 [0,3,4],2,n+1⟩
def QN (n:Nat) (p:Nat->Bool) (s:Int) (i:Nat) (h:Nat->Int) (j:Nat->V):St:=⟨jsV 57 0 j [(0,.sl 1 n (λk=>bV (p k))),(3,.ref 1),(4,iV s),(5,nV i)],[.row 3 1 0 Ac,.row 3 1 i (λk=>iV (h k))]⟩
def F4 (n:Nat) (p:Nat->Bool) (s:Int) (i:Nat) (h:Nat->Int):Ex×St:=(.ex 0,⟨jsV 57 0 Ac [(0,.sl 1 n (λk=>bV (p k))),(3,.ref 1),(4,iV s)],[.row 3 1 0 Ac,.row 3 1 i (λk=>iV (h k))]⟩)
noncomputable def E3 (L:LT):St->T (Ex×St):=λst=>AI tab ⟨Az tb0,L,Gl⟩ (A0 Tryz.f185 0) 0 st
section
variable (L:LT) (n:Nat) (p:Nat->Bool) (s:Int) (i:Nat) (h:Nat->Int)  (j:Nat->V)
include L n p s i h j
theorem AeH (h0:ilt (ofNat i) (ofNat n)=false):Au (E3 L) (O5 n p) (QN n p s i h j)=some ((.ex 0),⟨jsV 57 0 Ac [(0,.sl 1 n (λk=>bV (p k))),(3,.ref 1),(4,iV s)],[.row 3 1 0 Ac,.row 3 1 i (λk=>iV (h k))]⟩):=by
 exact Ad (ks:=[kn h0]) (by kernel_rfl)
theorem AeF (h0:ilt (ofNat i) (ofNat n)=true) (h2:Dk i 1 8=true) (h1:Aj (ile 0 (ofNat i)) (ilt (ofNat i) (ofNat n))=true) (h3:p i=true):Au (E3 L) (O5 n p) (QN n p s i h j)=some (.nm,⟨jsV 57 0 Ac [(0,.sl 1 n (λk=>bV (p k))),(3,.ref 1),(4,iV (wr .i64 (Ah s 1))),(5,iV (wr .i64 (Ah (ofNat i) 1)))],[.row 3 1 0 Ac,.row 3 1 (B1 i 1) (Be i (λk=>iV (h k)) (iV s))]⟩):=by
 exact Ad (ks:=[kn h0,kn h2,kn h1,kn h3]) (by kernel_rfl)
theorem AeG (h0:ilt (ofNat i) (ofNat n)=true) (h2:Dk i 1 8=true) (h1:Aj (ile 0 (ofNat i)) (ilt (ofNat i) (ofNat n))=true) (h3:p i=false):Au (E3 L) (O5 n p) (QN n p s i h j)=some (.nm,⟨jsV 57 0 Ac [(0,.sl 1 n (λk=>bV (p k))),(3,.ref 1),(4,iV s),(5,iV (wr .i64 (Ah (ofNat i) 1)))],[.row 3 1 0 Ac,.row 3 1 (B1 i 1) (Be i (λk=>iV (h k)) (iV s))]⟩):=by
 exact Ad (ks:=[kn h0,kn h2,kn h1,kn h3]) (by kernel_rfl)
end
def HH (n:Nat) (p:Nat->Bool) :St:=⟨jsV 57 0 (λ_=>AD) [(0,.sl 1 n (λk=>bV (p k))),(2,.ref 0),(3,.ref 1),(4,iV 0),(5,iV 0)],[.row 3 1 0 Ac,.row 3 1 0 Ac]⟩
def J6 (n:Nat) (p:Nat->Bool):Lp:=⟨bmK 57 0 [0,3,7],2,bmK 57 0 [3],2,n+1⟩
def Jv (n:Nat) (p:Nat->Bool) (d:Int) (g:Nat->Int) (j:Nat->V):St:=⟨jsV 57 0 j [(0,.sl 1 n (λk=>bV (p k))),(3,.ref 1),(7,iV d)],[.row 3 1 0 Ac,.row 3 1 n (λk=>iV (g k))]⟩
def JR (n:Nat) (p:Nat->Bool) (d:Int) (g:Nat->Int):Ex×St:=(.ex 2,⟨jsV 57 0 Ac [(3,.ref 1)],[.row 3 1 0 Ac,.row 3 1 n (λk=>iV (g k))]⟩)
noncomputable def G7 (L:LT):St->T (Ex×St):=λst=>AI tab ⟨Az tb0,L,Gl⟩ (A0 Tryz.f185 2) 2 st
section
variable (L:LT) (n:Nat) (p:Nat->Bool) (d:Int) (g:Nat->Int)  (j:Nat->V)
include L n p d g j
theorem Aeu (h0:ile 0 d=false):Au (G7 L) (J6 n p) (Jv n p d g j)=some ((.ex 2),⟨jsV 57 0 Ac [(3,.ref 1)],[.row 3 1 0 Ac,.row 3 1 n (λk=>iV (g k))]⟩):=by
 exact Ad (ks:=[kn h0,kn h0,kn h0,kn h0,kn h0,kn h0,kF]) (by kernel_rfl)
theorem Aet (h0:ile 0 d=true) (h1:Aj (ile 0 d) (ilt d (ofNat n))=true) (h3:p (toN d)=true):Au (G7 L) (J6 n p) (Jv n p d g j)=some ((.ex 2),⟨jsV 57 0 Ac [(3,.ref 1)],[.row 3 1 0 Ac,.row 3 1 n (λk=>iV (g k))]⟩):=by
 exact Ad (ks:=[kn h0,kn h0,kn h0,kn h1,kn h0,kn h0,kn h0,kN (kn h3)]) (by kernel_rfl)
theorem Aes (h0:ile 0 d=true) (h1:Aj (ile 0 d) (ilt d (ofNat n))=true) (h3:p (toN d)=false) (h2:nlt (toN d) n=true):Au (G7 L) (J6 n p) (Jv n p d g j)=some (.nm,⟨jsV 57 0 Ac [(0,.sl 1 n (λk=>bV (p k))),(3,.ref 1),(7,iV (wr .i64 (Bn d 1)))],[.row 3 1 0 Ac,.row 3 1 n (BF (λk=>iV (g k)) (toN d) (iV 0))]⟩):=by
 exact Ad (ks:=[kn h0,kn h0,kn h0,kn h1,kn h0,kn h0,kn h0,kN (kn h3),kn h1,kn h2]) (by kernel_rfl)
end
def Ab3 (n:Nat) (p:Nat->Bool) (s:Int) (g:Nat->Int):Nat->V:=lkU 144110790046121766 [(4,iV s),(6,nV n),(24,.sl 1 n (λk=>bV (p k))),(25,nV n),(26,nV n),(27,bV (ilt 0 (ofNat n))),(28,bV (ilt 0 (ofNat n))),(29,iV s),(30,bV (ilt 0 s)),(31,bV (ilt 0 s)),(32,bV (ilt 0 s)),(33,.sl 1 n (λk=>bV (p k))),(34,nV n),(35,iV (wr .i64 (Bn (ofNat n) 1))),(36,.pp (bV (p (toN (wr .i64 (Bn (ofNat n) 1)))))),(37,bV (p (toN (wr .i64 (Bn (ofNat n) 1))))),(38,bV (AL (p (toN (wr .i64 (Bn (ofNat n) 1)))))),(39,bV (AL (p (toN (wr .i64 (Bn (ofNat n) 1)))))),(40,nV n),(41,iV (wr .i64 (Bn (ofNat n) 1)))]
section
variable (L:LT) (p0:PT) (n:Nat) (p:Nat->Bool) (s:Int) (g:Nat->Int)
include L p0 n p s g
theorem Ad8 (h0:ilt 0 (ofNat n)=false) (hp0:p0 (E3 (onP 0 p0 (F4 n p s n g) L)) (HH n p)=true):(A7 (An tab ⟨Az tb0,onP 0 p0 (F4 n p s n g) L,Gl⟩ Tryz.f185 [.sl 1 n (λk=>bV (p k))] [])).sem=some ((.ref 0),[.row 3 1 n (λk=>iV (g k))]):=by
 exact Ad (ks:=[kn hp0,kn h0,kn h0,kn h0,kF,kF,kF,kF,kF,kF,kF,kF]) (by kernel_rfl)
theorem Ad7 (h0:ilt 0 (ofNat n)=true) (h1:ilt 0 s=false) (hp0:p0 (E3 (onP 0 p0 (F4 n p s n g) L)) (HH n p)=true):(A7 (An tab ⟨Az tb0,onP 0 p0 (F4 n p s n g) L,Gl⟩ Tryz.f185 [.sl 1 n (λk=>bV (p k))] [])).sem=some ((.ref 0),[.row 3 1 n (λk=>iV (g k))]):=by
 exact Ad (ks:=[kn hp0,kn h0,kn h0,kn h0,kn h1,kn h1,kn h1,kn h1,kn h1,kn h1,kn h1,kF]) (by kernel_rfl)
theorem Ad6 (h0:ilt 0 (ofNat n)=true) (h1:ilt 0 s=true) (h2:Aj (ile 0 (wr .i64 (Bn (ofNat n) 1))) (ilt (wr .i64 (Bn (ofNat n) 1)) (ofNat n))=true) (h3:p (toN (wr .i64 (Bn (ofNat n) 1)))=true) (hp0:p0 (E3 (onP 0 p0 (F4 n p s n g) L)) (HH n p)=true):(A7 (An tab ⟨Az tb0,onP 0 p0 (F4 n p s n g) L,Gl⟩ Tryz.f185 [.sl 1 n (λk=>bV (p k))] [])).sem=some ((.ref 0),[.row 3 1 n (λk=>iV (g k))]):=by
 exact Ad (ks:=[kn hp0,kn h0,kn h0,kn h0,kn h1,kn h1,kn h1,kn h1,kn h2,kn h1,kn h1,kn h1,kN (kn h3)]) (by kernel_rfl)
end
theorem Ad5 (L:LT) (p0:PT) (p2:PT) (n:Nat) (p:Nat->Bool) (s:Int) (g:Nat->Int) (d:Int) (u:Nat->Int) (h0:ilt 0 (ofNat n)=true) (h1:ilt 0 s=true) (h2:Aj (ile 0 (wr .i64 (Bn (ofNat n) 1))) (ilt (wr .i64 (Bn (ofNat n) 1)) (ofNat n))=true) (h3:p (toN (wr .i64 (Bn (ofNat n) 1)))=false) (hp0:p0 (E3 (onP 0 p0 (F4 n p s n g) (onP 2 p2 (JR n p d u) L))) (HH n p)=true) (hp2:p2 (G7 (onP 0 p0 (F4 n p s n g) (onP 2 p2 (JR n p d u) L))) (Jv n p (wr .i64 (Bn (ofNat n) 1)) g (Ab3 n p s g))=true):(A7 (An tab ⟨Az tb0,onP 0 p0 (F4 n p s n g) (onP 2 p2 (JR n p d u) L),Gl⟩ Tryz.f185 [.sl 1 n (λk=>bV (p k))] [])).sem=some ((.ref 0),[.row 3 1 n (λk=>iV (u k))]):=by
 exact Ad (ks:=[kn hp0,kn h0,kn h0,kn h0,kn h1,kn h1,kn h1,kn h1,kn h2,kn h1,kn h1,kn h1,kN (kn h3),kn hp2]) (by kernel_rfl)
theorem Rf (p:Nat->Bool) (i:Nat):Be i (λk=>iV (CC p i k)) (iV (ofNat (Ai p i)))=λk=>iV (CC p (i+1) k):=by
 funext k;rw [BA,show Nat.beq k i=decide (k=i) by rw [Bool.eq_iff_iff]; simp];unfold CC;by_cases h:k=i
 ·subst h; simp
 ·by_cases h2:k<i
  ·have:k<i+1:=by omega
   simp [h,h2,this]
  ·have:¬ k<i+1:=by omega
   simp [h,h2,this]
theorem Bs {p:Nat->Bool} {i:Nat} (h:p i=true):Ai p (i+1)=Ai p i+1:=by rw [Ai,h]
theorem B0 {p:Nat->Bool} {i:Nat} (h:p i=false):Ai p (i+1)=Ai p i:=by rw [Ai,h]
theorem To (L:LT) (n:Nat) (p:Nat->Bool) (h8:n * 8 <= 140737488355328):∀ (e i:Nat) (j:Nat->V) (q:Nat),n=i+e->e<q ->
  (A3 (E3 L) (O5 n p) q (QN n p (ofNat (Ai p i)) i (CC p i) j)).sem=some (F4 n p (ofNat (Ai p n)) n (CC p n))
 | 0,i,j,q+1,h,_=>by
  have:n=i:=by omega
  subst this;exact Ag (AeH L n p _ _ _ j (Av (Nat.le_refl _)))
 | e+1,i,j,q+1,h,h2=>by
  have hc:=B5 p i;have hl:i<n:=by omega
  have ha:Dk i 1 8=true:=FV (by omega);cases hp:p i with
  | true =>rw [Ag (AeF L n p (ofNat (Ai p i)) i (CC p i) j (ofNat_lt hl) ha (Ae hl) hp),AW,Ax hl (by omega),Ax (show Ai p i<n by omega) (by omega),<- Bs hp,Rf p i];exact To L n p h8 e (i+1) Ac q (by omega) (by omega)
  | false =>rw [Ag (AeG L n p (ofNat (Ai p i)) i (CC p i) j (ofNat_lt hl) ha (Ae hl) hp),AW,Ax hl (by omega),Rf p i,<- B0 hp];exact To L n p h8 e (i+1) Ac q (by omega) (by omega)
set_option maxHeartbeats 2000000 in
theorem UH (L:LT) (n:Nat) (p:Nat->Bool) (hn:n <= 4611686018427387904) (hs:0<Ai p n):∀ (D:Nat) (j:Nat->V) (q:Nat),D <= n->D<q->(∀ k,D <= k->k<n->Ai p k=Ai p n) ->
  (A3 (G7 L) (J6 n p) q (Jv n p (dn D) (CC p D) j)).sem=some (JR n p 0 (A1 p n))
 | 0,j,q+1,h,_,hb=>by
  rw [<- GL p n 0 h (λk hk=>absurd hk (Nat.not_lt_zero _)) hb];exact Ag (Aeu L n p (dn 0) (CC p 0) j rfl)
 | D+1,j,q+1,h,h2,hb=>by
  have hD:D<n:=by omega
  have hk:nlt D n=true:=by simpa [nlt] using hD
  cases hp:p D with
  | false =>
   have he:Ai p D=Ai p n:=by
    rw [<- B0 hp];by_cases h5:D+1=n
    ·rw [h5]
    ·exact hb (D+1) (Nat.le_refl _) (by omega)
   rw [show dn (D+1)=ofNat D from rfl,Ag (Aes L n p (ofNat D) (CC p (D+1)) j (Ci D) (Ae hD) hp hk),AW,OF (show D <= n by omega) hn,Ch,show toN (ofNat D)=D from rfl,Kp];exact UH L n p hn hs D Ac q (by omega) (by omega) λk h3 h4=>by
    by_cases h5:k=D
    ·subst h5; exact he
    ·exact hb k (by omega) h4
  | true =>
   have h6:Ai p D<Ai p n:=by
    have:=AT p (show D+1 <= n by omega);rw [Bs hp] at this;omega
   rw [<- GL p n (D+1) h (λk hk=>by have:=AT p (show k <= D by omega); omega) hb];rw [show dn (D+1)=ofNat D from rfl];exact Ag (Aet L n p (ofNat D) (CC p (D+1)) j (Ci D) (Ae hD) hp)
def Q2:List (Nat×List (Nat×V)):=[(0,[(1,iV 0)])]
def MC (n:Nat) (p:Nat->Bool):List (Nat×Lp):=[(0,O5 n p),(2,J6 n p)]
def Kx:List V->AB
 | [v]=>apB v λn p=>.br (F9 n) (.leaf (.ref 0,[.row 3 1 n λk=>iV (A1 p n k)])) .fail
 | _=>.fail
theorem AbG (n:Nat) (p:Nat->Bool):JH (HH n p) [(1,iV 0)]=QN n p 0 0 (λ_=>0) (λi=>nth (HH n p).t i):=by kernel_rfl
theorem ZX (n:Nat) (p:Nat->Bool) (h8:F9 n=true) :
  (A7 (An tab (cxZ Gl tb0 Q2 (MC n p)) Tryz.f185 [Ut n p] [])).sem=some (.ref 0,[.row 3 1 n λk=>iV (A1 p n k)]):=by
 have h8':n * 8 <= 140737488355328:=of_decide_eq_true h8;have hn:n <= 4611686018427387904:=by omega
 have hL:=K7 Q2 (MC n p);have h0:∀ L,(GQ Q2 (MC n p) 0 (E3 L) (HH n p)).sem=some (F4 n p (ofNat (Ai p n)) n (CC p n)):=λL=>by
  show (A3 (E3 L) (O5 n p) (n+1) (JH (HH n p) [(1,iV 0)])).sem=_;rw [AbG,<- Tq p];exact To L n p h8' n 0 _ (n+1) (by omega) (by omega)
 cases n with
 | zero =>rw [<- Py p 0 rfl];exact Bb (Bc hL hL) _ (Ad8 _ _ 0 p _ _ rfl (A5 (h0 _)))
 | succ m =>
  have c0:ilt 0 (ofNat (m+1))=true:=by rw [show (0:Int)=ofNat 0 from rfl,Dp]; simp
  have e1:wr .i64 (Bn (ofNat (m+1)) 1)=ofNat m:=OF (Nat.le_refl _) hn;have e2:toN (ofNat m)=m:=rfl;cases hs:ilt 0 (ofNat (Ai p (m+1))) with
  | false =>
   have hz:Ai p (m+1)=0:=by simpa [ilt] using hs
   have hw:=Bb (Bc hL hL) _ (Ad7 _ _ (m+1) p _ _ c0 hs (A5 (h0 _)));rw [<- Py p (m+1) hz];exact hw
  | true =>
   have hz:0<Ai p (m+1):=by simpa [ilt] using hs
   have hb:Aj (ile 0 (wr .i64 (Bn (ofNat (m+1)) 1))) (ilt (wr .i64 (Bn (ofNat (m+1)) 1)) (ofNat (m+1)))=true:=by rw [e1]; exact Ae (Nat.lt_succ_self m)
   cases hp:p m with
   | true =>have hw:=Bb (Bc hL hL) _ (Ad6 _ _ (m+1) p _ _ c0 hs hb (by rw [e1,e2]; exact hp) (A5 (h0 _)));rw [<- GL p (m+1) (m+1) (Nat.le_refl _) (λk hk=>by have:=AT p (show k <= m by omega); rw [Bs hp]; omega) (λk h1 h2=>by omega)];exact hw
   | false =>have h2:=λL j=>UH L (m+1) p hn hz (m+1) j (m+2) (Nat.le_refl _) (by omega) (λk h1 h2=>by omega);rw [show dn (m+1)=ofNat m from rfl,<- e1] at h2;exact Bb (Bc (Bc hL hL) hL) _ (Ad5 _ _ _ (m+1) p _ (CC p (m+1)) 0 (A1 p (m+1)) c0 hs hb (by rw [e1,e2]; exact hp) (A5 (h0 _)) (A5 (h2 _ _)))
theorem AiJ:As Tryz.prog Gl 185 Kx:=by
 refine Am AA mixed Tryz.func185 (by kernel_rfl) (by kernel_rfl) λvs v h' h=>?_;unfold Kx at h;split at h
 ·rename_i u
  obtain ⟨n,p,ha,h1⟩:=ZB h;obtain ⟨h8,hq⟩:=Ab h1;have:=Aa hq;simp only [Prod.mk.injEq] at this;obtain ⟨rfl,rfl⟩:=this;have hA:BK [u] [Ut n p]:=λS w cs hv=>by
   obtain ⟨c,l,rfl,q1,q2⟩:=hv;exact ⟨c,l,rfl,ha S w c q1,q2⟩
  have hx:=Ul D7 Q2 (MC n p);exact ⟨_,cxZ Gl tb0 Q2 (MC n p),_,hA,rfl,hx.1,hx.2,ZX n p h8,Aw.refl _⟩
 ·cases h
theorem DU {n:Nat}:Cn [.row 3 1 n (λ_=>iV 0)]=true:=by
 simp [Cn,LC,iV]
noncomputable def SJ:AK:=(152,BI λe=>bV (Ay e))::(153,BI λe=>bV (A4 e))::(185,Kx)::[]
theorem U4:Ar Tryz.prog Gl SJ:=.cons p60 <| .cons p61 <| .cons AiJ .nil
def I0 (p:Nat->Bool) (i k:Nat):Bool:=decide (k<i) && p k
theorem XS (p:Nat->Bool):I0 p 0=λ_=>false:=by
 funext k;simp [I0]
theorem Ot (p:Nat->Bool) (i:Nat):Be i (λk=>bV (I0 p i k)) (bV (p i))=λk=>bV (I0 p (i+1) k):=by
 funext k;rw [BA,show Nat.beq k i=decide (k=i) by rw [Bool.eq_iff_iff]; simp];unfold I0;by_cases h:k=i
 ·subst h; simp
 ·by_cases h2:k<i
  ·have:k<i+1:=by omega
   simp [h,h2,this]
  ·have:¬ k<i+1:=by omega
   simp [h,h2,this]
theorem Cd {p q:Nat->Bool}:∀ k,(∀ i,i<k->q i=p i)->Ai q k=Ai p k
 | 0,_=>rfl
 | k+1,h=>by
  rw [Ai,Ai,h k (Nat.lt_succ_self k),Cd k λi hi=>h i (by omega)]
theorem Mz (p:Nat->Bool) (n:Nat):A1 (I0 p n) n=A1 p n:=by
 have hq:∀ i,i<n->I0 p n i=p i:=λi hi=>by simp [I0,hi]
 funext k;unfold A1;by_cases h:k<n
 ·rw [Cd k λi hi=>hq i (by omega),Cd n hq]
 ·simp [h]
theorem IQ {n:Nat} (h:CJ n=true):n * 8 <= 140737488355328:=of_decide_eq_true (Gk h)
def Rt (n:Nat) (f:Nat->E6):Lp:=⟨bmK 21 0 [0,3,4],2,bmK 21 0 [3],2,n+1⟩
def Aay (n:Nat) (f:Nat->E6) (i:Nat) (h:Nat->Bool) (j:Nat->V):St:=⟨jsV 21 0 j [(0,.sl 6 n (λi=>eV (f i))),(3,.ref 1),(4,nV i)],[.row 3 1 0 Ac,.row 4 1 i (λk=>bV (h k))]⟩
def V2 (n:Nat) (f:Nat->E6) (i:Nat) (h:Nat->Bool):Ex×St:=(.ex 0,⟨jsV 21 0 Ac [(3,.ref 1)],[.row 3 1 0 Ac,.row 4 1 i (λk=>bV (h k))]⟩)
noncomputable def KP (L:LT):St->T (Ex×St):=λst=>AI tab ⟨Az SJ,L,Gl⟩ (A0 Tryz.f154 0) 0 st
section
variable (L:LT) (n:Nat) (f:Nat->E6) (i:Nat) (h:Nat->Bool)  (j:Nat->V)
include L n f i h j
theorem AgB (h0:ilt (ofNat i) (ofNat n)=false):Au (KP L) (Rt n f) (Aay n f i h j)=some ((.ex 0),⟨jsV 21 0 Ac [(3,.ref 1)],[.row 3 1 0 Ac,.row 4 1 i (λk=>bV (h k))]⟩):=by
 exact Ad (ks:=[kn h0]) (by kernel_rfl)
theorem AgA (h0:ilt (ofNat i) (ofNat n)=true) (h1:Aj (ile 0 (ofNat i)) (ilt (ofNat i) (ofNat n))=true) (h2:Dk i 1 1=true):Au (KP L) (Rt n f) (Aay n f i h j)=some (.nm,⟨jsV 21 0 Ac [(0,.sl 6 n (λi=>eV (f i))),(3,.ref 1),(4,iV (wr .i64 (Ah (ofNat i) 1)))],[.row 3 1 0 Ac,.row 4 1 (B1 i 1) (Be i (λk=>bV (h k)) (bV (Ay (f i))))]⟩):=by
 exact Ad (ks:=[kn h0,kn h1,kn h2]) (by kernel_rfl)
end
def RZ (n:Nat) (f:Nat->E6) :St:=⟨jsV 21 0 (λ_=>AD) [(0,.sl 6 n (λi=>eV (f i))),(2,.ref 0),(3,.ref 1),(4,iV 0)],[.row 3 1 0 Ac,.row 4 1 0 Ac]⟩
theorem Ai0 (L:LT) (p0:PT) (n:Nat) (f:Nat->E6) (q:Nat->Bool) (h0:F9 n=true) (h10:Cn [.row 3 1 n (λ_=>iV 0)]=true) (hp0:p0 (KP (onP 0 p0 (V2 n f n q) L)) (RZ n f)=true):(A7 (An tab ⟨Az SJ,onP 0 p0 (V2 n f n q) L,Gl⟩ Tryz.f154 [A9 n f] [])).sem=some ((.ref 0),[.row 3 1 n (λk=>iV (A1 q n k))]):=by
 exact Ad (ks:=[kn hp0,kL n,kn h0,kn h10]) (by kernel_rfl)
theorem Acu (L:LT) (n:Nat) (f:Nat->E6) (h8:n * 8 <= 140737488355328):∀ (e i:Nat) (j:Nat->V) (q:Nat),n=i+e->e<q ->
  (A3 (KP L) (Rt n f) q (Aay n f i (I0 (λk=>Ay (f k)) i) j)).sem=some (V2 n f n (I0 (λk=>Ay (f k)) n))
 | 0,i,j,q+1,h,_=>by
  have:n=i:=by omega
  subst this;exact Ag (AgB L n f _ _ j (Av (Nat.le_refl _)))
 | e+1,i,j,q+1,h,h2=>by
  have hl:i<n:=by omega
  have ha:Dk i 1 1=true:=FV (by omega);rw [Ag (AgA L n f i (I0 (λk=>Ay (f k)) i) j (ofNat_lt hl) (Ae hl) ha),AW,Ax hl (by omega)];have:=Ot (λk=>Ay (f k)) i;rw [this];exact Acu L n f h8 e (i+1) Ac q (by omega) (by omega)
def ZR:List (Nat×List (Nat×V)):=[(0,[(1,bV false)])]
theorem Afs (n:Nat) (f:Nat->E6):JH (RZ n f) [(1,bV false)]=Aay n f 0 (λ_=>false) (λi=>nth (RZ n f).t i):=by kernel_rfl
def P0:List V->AB:=G8 λn f=>.br (CJ n) (.leaf (.ref 0,[.row 3 1 n λk=>iV (A1 (λk=>Ay (f k)) n k)])) .fail
theorem p94:As Tryz.prog Gl 154 P0:=by
 refine Am AA mixed Tryz.func154 (by kernel_rfl) (by kernel_rfl) λvs v h' h=>?_;obtain ⟨n,f,ha,h1⟩:=CW h;obtain ⟨hn,hq⟩:=Ab h1;have:=Aa hq;simp only [Prod.mk.injEq] at this;obtain ⟨rfl,rfl⟩:=this;have hx:=Ul U4 ZR [(0,Rt n f)];have hL:=K7 ZR [(0,Rt n f)];have h0:∀ L,(GQ ZR [(0,Rt n f)] 0 (KP L) (RZ n f)).sem=some (V2 n f n (I0 (λk=>Ay (f k)) n)):=λL=>by
  show (A3 (KP L) (Rt n f) (n+1) (JH (RZ n f) [(1,bV false)])).sem=_;rw [Afs,<- XS (λk=>Ay (f k))];exact Acu L n f (IQ hn) n 0 _ (n+1) (by omega) (by omega)
 have hw:=Bb (Bc hL hL) _ (Ai0 _ _ n f _ (Gk hn) DU (A5 (h0 _)));rw [Mz (λk=>Ay (f k)) n] at hw;exact ⟨_,cxZ Gl SJ ZR [(0,Rt n f)],_,ha,rfl,hx.1,hx.2,hw,Aw.refl _⟩
def Rs (n:Nat) (f:Nat->E6):Lp:=⟨bmK 21 0 [0,3,4],2,bmK 21 0 [3],2,n+1⟩
def Aax (n:Nat) (f:Nat->E6) (i:Nat) (h:Nat->Bool) (j:Nat->V):St:=⟨jsV 21 0 j [(0,.sl 6 n (λi=>eV (f i))),(3,.ref 1),(4,nV i)],[.row 3 1 0 Ac,.row 4 1 i (λk=>bV (h k))]⟩
def V1 (n:Nat) (f:Nat->E6) (i:Nat) (h:Nat->Bool):Ex×St:=(.ex 0,⟨jsV 21 0 Ac [(3,.ref 1)],[.row 3 1 0 Ac,.row 4 1 i (λk=>bV (h k))]⟩)
noncomputable def KO (L:LT):St->T (Ex×St):=λst=>AI tab ⟨Az SJ,L,Gl⟩ (A0 Tryz.f155 0) 0 st
section
variable (L:LT) (n:Nat) (f:Nat->E6) (i:Nat) (h:Nat->Bool)  (j:Nat->V)
include L n f i h j
theorem Ag9 (h0:ilt (ofNat i) (ofNat n)=false):Au (KO L) (Rs n f) (Aax n f i h j)=some ((.ex 0),⟨jsV 21 0 Ac [(3,.ref 1)],[.row 3 1 0 Ac,.row 4 1 i (λk=>bV (h k))]⟩):=by
 exact Ad (ks:=[kn h0]) (by kernel_rfl)
theorem Ag8 (h0:ilt (ofNat i) (ofNat n)=true) (h1:Aj (ile 0 (ofNat i)) (ilt (ofNat i) (ofNat n))=true) (h2:Dk i 1 1=true):Au (KO L) (Rs n f) (Aax n f i h j)=some (.nm,⟨jsV 21 0 Ac [(0,.sl 6 n (λi=>eV (f i))),(3,.ref 1),(4,iV (wr .i64 (Ah (ofNat i) 1)))],[.row 3 1 0 Ac,.row 4 1 (B1 i 1) (Be i (λk=>bV (h k)) (bV (A4 (f i))))]⟩):=by
 exact Ad (ks:=[kn h0,kn h1,kn h2]) (by kernel_rfl)
end
def RY (n:Nat) (f:Nat->E6) :St:=⟨jsV 21 0 (λ_=>AD) [(0,.sl 6 n (λi=>eV (f i))),(2,.ref 0),(3,.ref 1),(4,iV 0)],[.row 3 1 0 Ac,.row 4 1 0 Ac]⟩
theorem Aiz (L:LT) (p0:PT) (n:Nat) (f:Nat->E6) (q:Nat->Bool) (h0:F9 n=true) (h10:Cn [.row 3 1 n (λ_=>iV 0)]=true) (hp0:p0 (KO (onP 0 p0 (V1 n f n q) L)) (RY n f)=true):(A7 (An tab ⟨Az SJ,onP 0 p0 (V1 n f n q) L,Gl⟩ Tryz.f155 [A9 n f] [])).sem=some ((.ref 0),[.row 3 1 n (λk=>iV (A1 q n k))]):=by
 exact Ad (ks:=[kn hp0,kL n,kn h0,kn h10]) (by kernel_rfl)
theorem Acs (L:LT) (n:Nat) (f:Nat->E6) (h8:n * 8 <= 140737488355328):∀ (e i:Nat) (j:Nat->V) (q:Nat),n=i+e->e<q ->
  (A3 (KO L) (Rs n f) q (Aax n f i (I0 (λk=>A4 (f k)) i) j)).sem=some (V1 n f n (I0 (λk=>A4 (f k)) n))
 | 0,i,j,q+1,h,_=>by
  have:n=i:=by omega
  subst this;exact Ag (Ag9 L n f _ _ j (Av (Nat.le_refl _)))
 | e+1,i,j,q+1,h,h2=>by
  have hl:i<n:=by omega
  have ha:Dk i 1 1=true:=FV (by omega);rw [Ag (Ag8 L n f i (I0 (λk=>A4 (f k)) i) j (ofNat_lt hl) (Ae hl) ha),AW,Ax hl (by omega)];have:=Ot (λk=>A4 (f k)) i;rw [this];exact Acs L n f h8 e (i+1) Ac q (by omega) (by omega)
def ZQ:List (Nat×List (Nat×V)):=[(0,[(1,bV false)])]
theorem Afr (n:Nat) (f:Nat->E6):JH (RY n f) [(1,bV false)]=Aax n f 0 (λ_=>false) (λi=>nth (RY n f).t i):=by kernel_rfl
def Pz:List V->AB:=G8 λn f=>.br (CJ n) (.leaf (.ref 0,[.row 3 1 n λk=>iV (A1 (λk=>A4 (f k)) n k)])) .fail
theorem p95:As Tryz.prog Gl 155 Pz:=by
 refine Am AA mixed Tryz.func155 (by kernel_rfl) (by kernel_rfl) λvs v h' h=>?_;obtain ⟨n,f,ha,h1⟩:=CW h;obtain ⟨hn,hq⟩:=Ab h1;have:=Aa hq;simp only [Prod.mk.injEq] at this;obtain ⟨rfl,rfl⟩:=this;have hx:=Ul U4 ZQ [(0,Rs n f)];have hL:=K7 ZQ [(0,Rs n f)];have h0:∀ L,(GQ ZQ [(0,Rs n f)] 0 (KO L) (RY n f)).sem=some (V1 n f n (I0 (λk=>A4 (f k)) n)):=λL=>by
  show (A3 (KO L) (Rs n f) (n+1) (JH (RY n f) [(1,bV false)])).sem=_;rw [Afr,<- XS (λk=>A4 (f k))];exact Acs L n f (IQ hn) n 0 _ (n+1) (by omega) (by omega)
 have hw:=Bb (Bc hL hL) _ (Aiz _ _ n f _ (Gk hn) DU (A5 (h0 _)));rw [Mz (λk=>A4 (f k)) n] at hw;exact ⟨_,cxZ Gl SJ ZQ [(0,Rs n f)],_,ha,rfl,hx.1,hx.2,hw,Aw.refl _⟩
noncomputable def tb53:AK:=(79,Ahm)::(154,P0)::(155,Pz)::[]
theorem tb53_ok:Ar Tryz.prog Gl tb53:=.cons p98 <| .cons p94 <| .cons p95 .nil
def J2 (g:Nat->(Nat->E6)->Nat->Int):List V->AB:=G8 λn f=>.br (CJ n) (match DX n f with
 | true=>.leaf (.tup [.ref 0,iV 0],[.row 3 1 n λk=>iV (g n f k)])
 | false=>.leaf (.tup [.ref 0,iV 30],[.row 3 1 0 λ_=>.und])) .fail
theorem p53:As Tryz.prog Gl 109 (J2 λn f=>A1 (λk=>Ay (f k)) n):=by
 refine Am AA mixed Tryz.func109 (by kernel_rfl) (by kernel_rfl) λvs v h' h=>?_;obtain ⟨n,f,ha,h1⟩:=CW h;obtain ⟨hn,hq⟩:=Ab h1;have hx:=Bh tb53_ok [];have hs:Ap n=true:=Za (Gk hn);cases hm:DX n f with
 | true =>rw [hm] at hq;have:=Aa hq;simp only [Prod.mk.injEq] at this;obtain ⟨rfl,rfl⟩:=this;exact ⟨_,Br Gl tb53 [],_,ha,rfl,hx.1,hx.2,Ad (ks:=[kL n,kn hs,kN (kn hm),kL n,kn hn]) (by kernel_rfl)/-W:w53t-/,Aw.refl _⟩
 | false =>rw [hm] at hq;have:=Aa hq;simp only [Prod.mk.injEq] at this;obtain ⟨rfl,rfl⟩:=this;exact ⟨_,Br Gl tb53 [],_,ha,rfl,hx.1,hx.2,Ad (ks:=[kL n,kn hs,kN (kn hm)]) (by kernel_rfl)/-W:w53f-/,Aw.refl _⟩
theorem p54:As Tryz.prog Gl 110 (J2 λn f=>A1 (λk=>A4 (f k)) n):=by
 refine Am AA mixed Tryz.func110 (by kernel_rfl) (by kernel_rfl) λvs v h' h=>?_;obtain ⟨n,f,ha,h1⟩:=CW h;obtain ⟨hn,hq⟩:=Ab h1;have hx:=Bh tb53_ok [];have hs:Ap n=true:=Za (Gk hn);cases hm:DX n f with
 | true =>rw [hm] at hq;have:=Aa hq;simp only [Prod.mk.injEq] at this;obtain ⟨rfl,rfl⟩:=this;exact ⟨_,Br Gl tb53 [],_,ha,rfl,hx.1,hx.2,Ad (ks:=[kL n,kn hs,kN (kn hm),kL n,kn hn]) (by kernel_rfl)/-W:w54t-/,Aw.refl _⟩
 | false =>rw [hm] at hq;have:=Aa hq;simp only [Prod.mk.injEq] at this;obtain ⟨rfl,rfl⟩:=this;exact ⟨_,Br Gl tb53 [],_,ha,rfl,hx.1,hx.2,Ad (ks:=[kL n,kn hs,kN (kn hm)]) (by kernel_rfl)/-W:w54f-/,Aw.refl _⟩
end Go.Proofs.YtkbafjceglhjhaaGreatDoor.Ed
namespace Go.Proofs.YtkbafjceglhjhaaGreatDoor.Sh
open Go.Sy Ed
open Int (ofNat)
theorem AdG (e:E6):(A7 (An tab (Br Gl [] []) Tryz.f177 [eV e] [])).sem=(sel (ieq (e).kind 1) (sel (ieq (e).kind 1) (sel (ieq (e).kind 1) (sel (ieq (e).kind 1) (some ((bV true),[])) none) none) none) (sel (ieq (e).kind 1) (sel (ieq (e).kind 1) (sel (ieq (e).kind 1) (some ((bV true),[])) none) none) (sel (ieq (e).kind 1) (sel (ieq (e).kind 1) (some ((bV true),[])) none) (sel (ieq (e).kind 1) (some ((bV true),[])) (sel (ieq (e).kind 2) (sel (ieq (e).kind 2) (sel (ieq (e).kind 2) (sel (ieq (e).kind 2) (some ((bV true),[])) (some (AD,[]))) none) none) (sel (ieq (e).kind 2) (sel (ieq (e).kind 2) (sel (ieq (e).kind 2) (some ((bV true),[])) (some (AD,[]))) none) (sel (ieq (e).kind 2) (sel (ieq (e).kind 2) (some ((bV true),[])) (some (AD,[]))) (sel (ieq (e).kind 2) (some ((bV true),[])) (some ((bV (ieq (e).kind 3)),[])))))))))):=by kernel_rfl
theorem p91:As Tryz.prog Gl 177 (BI λe=>bV (Bw e)):=by
 refine As.congr (AH AA mixed Tryz.func177 (by kernel_rfl) (by kernel_rfl) (Γ:=Br Gl [] []) (Bh Ar.nil _)) λvs r h=>?_;obtain ⟨e,rfl,rfl⟩:=BO h;refine (AdG e).trans ?_;rw [Nt];cases ieq e.kind 1 <;> cases ieq e.kind 2 <;> cases ieq e.kind 3 <;> rfl
noncomputable def Xs:AK:=(177,BI λe=>bV (Bw e))::[]
theorem U9:Ar Tryz.prog Gl Xs:=.cons p91 .nil
theorem AdM (e:E6):(A7 (An tab (Br Gl Xs []) Tryz.f139 [eV e] [])).sem=(sel (Bw e) (sel (Bw e) (sel (Bw e) (some ((bV (e).ext),[])) (some ((bV false),[]))) (sel (Bw e) (some (AD,[])) (some ((bV false),[])))) (sel (Bw e) none (sel (Bw e) (some (AD,[])) (some ((bV false),[]))))):=by kernel_rfl
theorem p52:As Tryz.prog Gl 139 (BI λe=>bV (Ay e)):=by
 refine As.congr (AH AA mixed Tryz.func139 (by kernel_rfl) (by kernel_rfl) (Γ:=Br Gl Xs []) (Bh U9 _)) λvs r h=>?_;obtain ⟨e,rfl,rfl⟩:=BO h;refine (AdM e).trans ?_;unfold Ay;cases Bw e <;> rfl
theorem AdL (e:E6):(A7 (An tab (Br Gl Xs []) Tryz.f141 [eV e] [])).sem=(sel (AL (Bw e)) (sel (AL (Bw e)) (sel (AL (Bw e)) (sel (AL (Bw e)) (some ((bV (AL (e).same)),[])) (some ((bV false),[]))) (sel (AL (Bw e)) (some (AD,[])) (some ((bV false),[])))) (sel (AL (Bw e)) none (sel (AL (Bw e)) (some (AD,[])) (some ((bV false),[]))))) (sel (AL (Bw e)) none (sel (AL (Bw e)) none (sel (AL (Bw e)) (some (AD,[])) (some ((bV false),[])))))):=by kernel_rfl
theorem p54:As Tryz.prog Gl 141 (BI λe=>bV (A4 e)):=by
 refine As.congr (AH AA mixed Tryz.func141 (by kernel_rfl) (by kernel_rfl) (Γ:=Br Gl Xs []) (Bh U9 _)) λvs r h=>?_;obtain ⟨e,rfl,rfl⟩:=BO h;refine (AdL e).trans ?_;unfold A4;cases Bw e <;> rfl
noncomputable def L8 (n:Nat) (f:Nat->Int) (x:Int):Int:=match (List.range n).find? λi=>ieq x (f i) with
 | some i=>ofNat i
 | none=>-1
theorem OB {n:Nat} {f:Nat->Int} {x:Int} {i:Nat} (hi:i<n) (h:ieq x (f i)=true) (hb:∀ k,k<i->ieq x (f k)=false):L8 n f x=ofNat i:=by
 unfold L8;have:(List.range n).find? (λi=>ieq x (f i))=some i:=by
  rw [List.find?_range_eq_some];exact ⟨h,by simpa using hi,λj hj=>by rw [hb j hj]; rfl⟩
 rw [this]
theorem RE {n:Nat} {f:Nat->Int} {x:Int} (h:∀ k,k<n->ieq x (f k)=false):L8 n f x = -1:=by
 unfold L8;have:(List.range n).find? (λi=>ieq x (f i))=none:=by
  rw [List.find?_eq_none];intro k hk;rw [h k (by simpa using hk)];simp
 rw [this]
def ME (n:Nat) (f:Nat->Int) (x:Int):Lp:=⟨bmK 19 0 [0,1,4,7,8],0,bmK 19 0 [4],0,n+1⟩
def Ph (n:Nat) (f:Nat->Int) (x:Int) (b:Nat) (j:Nat->V):St:=⟨jsV 19 0 j [(0,.sl 1 n λk=>iV (f k)),(1,iV x),(4,iV 0),(7,nV n),(8,nV b)],[]⟩
def V3 (n:Nat) (f:Nat->Int) (x:Int) (b:Nat):Ex×St:=(.rt,⟨jsV 19 0 Ac [(4,nV b)],[]⟩)
def V4 (n:Nat) (f:Nat->Int) (x:Int) (b:Nat):Ex×St:=(.ex 0,⟨jsV 19 0 Ac [(4,iV 0)],[]⟩)
noncomputable def Hd (L:LT):St->T (Ex×St):=λst=>AI tab ⟨Az tb0,L,Gl⟩ (A0 Tryz.f178 0) 0 st
section
variable (L:LT) (n:Nat) (f:Nat->Int) (x:Int) (b:Nat)  (j:Nat->V)
include L n f x b j
theorem Agu (h0:ilt (ofNat b) (ofNat n)=true) (h11:ile 0 (ofNat b)=true) (h1:ieq x (f b)=false):Au (Hd L) (ME n f x) (Ph n f x b j)=some (.nm,⟨jsV 19 0 Ac [(0,.sl 1 n (λk=>iV (f k))),(1,iV x),(4,iV 0),(7,nV n),(8,iV (wr .i64 (Ah (ofNat b) 1)))],[]⟩):=by
 exact Ad (ks:=[kn h0,kA (kn h11) (kn h0),kn h1]) (by kernel_rfl)
theorem Agt (h0:ilt (ofNat b) (ofNat n)=true) (h11:ile 0 (ofNat b)=true) (h1:ieq x (f b)=true):Au (Hd L) (ME n f x) (Ph n f x b j)=some (.rt,⟨jsV 19 0 Ac [(4,nV b)],[]⟩):=by
 exact Ad (ks:=[kn h0,kA (kn h11) (kn h0),kn h1]) (by kernel_rfl)
theorem Agv (h0:ilt (ofNat b) (ofNat n)=false):Au (Hd L) (ME n f x) (Ph n f x b j)=some ((.ex 0),⟨jsV 19 0 Ac [(4,iV 0)],[]⟩):=by
 exact Ad (ks:=[kn h0]) (by kernel_rfl)
end
def Afm (n:Nat) (f:Nat->Int) (x:Int) :Nat->V:=lkV AD [(6,.sl 1 n (λk=>iV (f k)))]
theorem AfJ (L:LT) (p0:PT) (n:Nat) (f:Nat->Int) (x:Int) (b:Nat)  (hp0:p0 (Hd (onP 0 p0 (V3 n f x b) L)) (Ph n f x 0 (Afm n f x ))=true):(A7 (An tab ⟨Az tb0,onP 0 p0 (V3 n f x b) L,Gl⟩ Tryz.f178 [.sl 1 n λk=>iV (f k),iV x] [])).sem=some ((nV b),[]):=by
 exact Ad (ks:=[kn hp0]) (by kernel_rfl)
theorem AfK (L:LT) (p0:PT) (n:Nat) (f:Nat->Int) (x:Int)  (hp0:p0 (Hd (onP 0 p0 (V4 n f x 0) L)) (Ph n f x 0 (Afm n f x ))=true):(A7 (An tab ⟨Az tb0,onP 0 p0 (V4 n f x 0) L,Gl⟩ Tryz.f178 [.sl 1 n λk=>iV (f k),iV x] [])).sem=some ((iV (-1)),[]):=by
 exact Ad (ks:=[kn hp0]) (by kernel_rfl)
theorem Acv (L:LT) (n:Nat) (f:Nat->Int) (x:Int) (hn:n <= 4611686018427387904):∀ (e i:Nat) (j:Nat->V) (q:Nat),n=i+e->e<q->(∀ k,k<i->ieq x (f k)=false) ->
  ((A3 (Hd L) (ME n f x) q (Ph n f x i j)).sem=some (V4 n f x 0)∧L8 n f x = -1) ∨ ∃ b,(A3 (Hd L) (ME n f x) q (Ph n f x i j)).sem=some (V3 n f x b)∧L8 n f x=ofNat b
 | 0,i,j,q+1,h,_,hb=>by
  have:n=i:=by omega
  subst this;exact .inl ⟨Ag (Agv L n f x n j (Av (Nat.le_refl _))),RE hb⟩
 | e+1,i,j,q+1,h,h2,hb=>by
  have hl:i<n:=by omega
  cases hp:ieq x (f i) with
  | true =>exact .inr ⟨i,Ag (Agt L n f x i j (ofNat_lt hl) (Ci i) hp),OB hl hp hb⟩
  | false =>
   rw [Ag (Agu L n f x i j (ofNat_lt hl) (Ci i) hp),AW,Ax hl hn];refine Acv L n f x hn e (i+1) Ac q (by omega) (by omega) λk hk=>?_;by_cases hki:k=i
   ·rw [hki]; exact hp
   ·exact hb k (by omega)
noncomputable def TO:List V->AB
 | [v,.val (.int .i64 x)]=>apI v λn f=>.br (F9 n) (.leaf (iV (L8 n f x),[])) .fail
 | _=>.fail
theorem p92:As Tryz.prog Gl 178 TO:=by
 refine Am AA mixed Tryz.func178 (by kernel_rfl) (by kernel_rfl) λvs v h' h=>?_;unfold TO at h;split at h
 ·rename_i u x
  obtain ⟨n,f,ha,h1⟩:=F6 h;obtain ⟨h8,hq⟩:=Ab h1;have:=Aa hq;simp only [Prod.mk.injEq] at this;obtain ⟨rfl,rfl⟩:=this;have h8':n * 8 <= 140737488355328:=of_decide_eq_true h8;have hA:BK [u,iV x] [EE n f,iV x]:=λS w cs hv=>by
   obtain ⟨c,l,rfl,q1,q2⟩:=hv;exact ⟨c,l,rfl,ha S w c q1,q2⟩
  have hx:=Bh D7 [(0,ME n f x)] (G:=Gl);have hL:=Bd [(0,ME n f x)];refine ⟨_,Br Gl tb0 [(0,ME n f x)],_,hA,rfl,hx.1,hx.2,?_,Aw.refl _⟩;have h0:=λL j=>Acv L n f x (by omega) n 0 j (n+1) (by omega) (by omega) (λk hk=>absurd hk (Nat.not_lt_zero _));rcases h0 (Cq [(0,ME n f x)]) (Afm n f x) with ⟨_,h5⟩ | ⟨b,_,h5⟩
  ·have h6:∀ L j,(A3 (Hd L) (ME n f x) (n+1) (Ph n f x 0 j)).sem=some (V4 n f x 0):=λL j=>by
    rcases h0 L j with ⟨h,_⟩ | ⟨b,_,h⟩
    ·exact h
    ·rw [h5] at h
     cases h
   rw [h5];exact Bb (Bc hL hL) _ (AfK _ _ n f x (A5 (h6 _ _)))
  ·have h6:∀ L j,(A3 (Hd L) (ME n f x) (n+1) (Ph n f x 0 j)).sem=some (V3 n f x b):=λL j=>by
    rcases h0 L j with ⟨_,h⟩ | ⟨b',h,h'⟩
    ·rw [h5] at h
     cases h
    ·rw [h5] at h'
     cases h';exact h
   rw [h5];exact Bb (Bc hL hL) _ (AfJ _ _ n f x b (A5 (h6 _ _)))
 ·cases h
end Go.Proofs.YtkbafjceglhjhaaGreatDoor.Sh
namespace Go.Proofs.YtkbafjceglhjhaaGreatDoor.Sh
open Go.Sy Ed
inductive Begin (p:Nat->Bool) (n:Nat):Nat->Prop
 | none:(∀ k,k<n->p k=false)->Begin p n 0
 | last:0<n->p (n-1)=true->Begin p n 0
 | first {z:Nat}:0<z->z<n->p (z-1)=true->(∀ k,k<z-1->p k=false)->p (n-1)=false->Begin p n z
theorem G2 {p:Nat->Bool}:∀ {k:Nat},(∀ i,i<k->p i=false)->Ai p k=0
 | 0,_=>rfl
 | k+1,h=>by rw [B0 (h k (Nat.lt_succ_self k)),G2 λi hi=>h i (by omega)]
theorem KN (p:Nat->Bool) (k:Nat):Ai p (k+1)=Ai p k ∨ Ai p (k+1)=Ai p k+1:=by
 cases h:p k with
 | true=>exact .inr (Bs h)
 | false=>exact .inl (B0 h)
def Fo (p:Nat->Bool) (n z t:Nat):Bool:=p ((z+t) % n)
theorem G1 {p:Nat->Bool} {n z:Nat}:∀ {t:Nat},z+t <= n->Ai (Fo p n z) t+Ai p z=Ai p (z+t)
 | 0,_=>by simp [Ai]
 | t+1,h=>by
  have ih:=G1 (p:=p) (n:=n) (z:=z) (t:=t) (by omega);have he:Fo p n z t=p (z+t):=by unfold Fo; rw [Nat.mod_eq_of_lt (by omega)]
  rw [show z+(t+1)=z+t+1 by omega];cases hp:p (z+t) with
  | true=>rw [Bs (he.trans hp),Bs hp]; omega
  | false=>rw [B0 (he.trans hp),B0 hp]; exact ih
theorem OL {p:Nat->Bool} {n z:Nat} (hz:z <= n):∀ {i:Nat},i <= z->Ai (Fo p n z) (n-z+i)+Ai p z=Ai p n+Ai p i
 | 0,_=>by
  have:=G1 (p:=p) (n:=n) (z:=z) (t:=n-z) (by omega);rw [show z+(n-z)=n by omega] at this;simpa [Ai] using this
 | i+1,h=>by
  have ih:=OL (p:=p) (n:=n) (z:=z) hz (i:=i) (by omega);have he:Fo p n z (n-z+i)=p i:=by
   unfold Fo;rw [show z+(n-z+i)=i+n by omega,Nat.add_mod_right,Nat.mod_eq_of_lt (by omega)]
  rw [show n-z+(i+1)=n-z+i+1 by omega];cases hp:p i with
  | true=>rw [Bs (he.trans hp),Bs hp]; omega
  | false=>rw [B0 (he.trans hp),B0 hp]; exact ih
def posN (n z i:Nat):Nat:=(i+(n-z)) % n
def AS (p:Nat->Bool) (n k:Nat):Nat:=if Ai p k=Ai p n then 0 else Ai p k
theorem EW {p:Nat->Bool} {n k:Nat} (h:k<n):A1 p n k=Int.ofNat (AS p n k):=by
 unfold A1 AS;rw [show decide (k<n)=true by simpa using h];simp only [cond_true];by_cases he:Ai p k=Ai p n
 ·simp [he]
 ·simp [he]
def snN (p:Nat->Bool) (n z v:Nat):Nat:=if z=0 then v else if v=0 then Ai p n-1 else v-1
theorem AaL {p:Nat->Bool} {n z:Nat} (hb:Begin p n z) {i:Nat} (hi:i<n):Ai (Fo p n z) (posN n z i)=snN p n z (AS p n i):=by
 have hmi:=AT p (show i <= n by omega);cases hb with
 | none h0 =>
  have h1:Ai p n=0:=G2 h0;have h2:posN n 0 i=i:=by unfold posN; rw [Nat.sub_zero,Nat.add_mod_right,Nat.mod_eq_of_lt hi]
  have h3:=G1 (p:=p) (n:=n) (z:=0) (t:=i) (by omega);rw [Nat.zero_add] at h3;rw [h2];unfold snN AS;rw [if_pos rfl,h1];simp [Ai] at h3;rw [h3];split <;> omega
 | last hn h0 =>
  have h2:posN n 0 i=i:=by unfold posN; rw [Nat.sub_zero,Nat.add_mod_right,Nat.mod_eq_of_lt hi]
  have h3:=G1 (p:=p) (n:=n) (z:=0) (t:=i) (by omega);rw [Nat.zero_add] at h3;have h4:Ai p n=Ai p (n-1)+1:=by
   have:=Bs h0;rwa [show n-1+1=n by omega] at this
  have h5:=AT p (show i <= n-1 by omega);rw [h2];unfold snN AS;rw [if_pos rfl];simp [Ai] at h3;rw [h3,if_neg (by omega)]
 | first hz hzn h0 h1 h2 =>
  have c0:Ai p (z-1)=0:=G2 h1;have c1:Ai p z=1:=by
   have:=Bs h0;rwa [show z-1+1=z by omega,c0] at this
  have hK:=AT p (show z <= n by omega);unfold snN AS;rw [if_neg (by omega)];rcases Nat.lt_or_ge i z with hc | hc
  ·have e1:posN n z i=n-z+i:=by unfold posN; rw [Nat.mod_eq_of_lt (by omega)]; omega
   have e2:=OL (p:=p) (n:=n) (z:=z) (by omega) (i:=i) (by omega);have e3:Ai p i=0:=G2 λk hk=>h1 k (by omega);have e4:(if Ai p i=Ai p n then 0 else Ai p i)=0:=by split <;> omega
   rw [e1,if_pos e4];omega
  ·have e1:posN n z i=i-z:=by unfold posN; rw [show i+(n-z)=i-z+n by omega,Nat.add_mod_right,Nat.mod_eq_of_lt (by omega)]
   have e2:=G1 (p:=p) (n:=n) (z:=z) (t:=i-z) (by omega);rw [show z+(i-z)=i by omega] at e2;have e3:=AT p hc;rw [e1];by_cases he:Ai p i=Ai p n
   ·rw [if_pos he,if_pos rfl]; omega
   ·rw [if_neg he,if_neg (by omega:¬ Ai p i=0)]; omega
theorem X4 {p:Nat->Bool} {n z u v:Nat} (hu:u <= v) (hv:v=0 ∨ v<Ai p n) (h:snN p n z u=snN p n z v):u=v:=by
 unfold snN at h;split at h
 ·exact h
 ·split at h <;> split at h <;> omega
def rN (p:Nat->Bool) (n:Nat):Nat->Nat
 | 0=>0
 | b+1=>if AS p n b<rN p n b then rN p n b else rN p n b+1
theorem My {p:Nat->Bool} {n k:Nat} (h:k <= n):AS p n k=0 ∨ AS p n k<Ai p n:=by
 have:=AT p h;unfold AS;split
 ·exact .inl rfl
 ·exact .inr (by omega)
theorem Yf (p:Nat->Bool) (n:Nat):AS p n 0=0:=by
 have h:Ai p 0=0:=rfl;unfold AS;split
 ·rfl
 ·exact h
theorem XZ (p:Nat->Bool) (n:Nat):∀ b,b<n->rN p n (b+1)=if Ai p b=Ai p n then max (Ai p n) 1 else Ai p b+1
 | 0,h=>by
  have h1:rN p n (0+1)=1:=by
   rw [rN,Yf];simp [rN]
  have h2:Ai p 0=0:=rfl;rw [h1,h2];split <;> omega
 | b+1,h=>by
  have ih:=XZ p n b (by omega);have h1:=AT p (show b+1 <= n by omega);have h2:=AT p (show b <= n by omega);have h3:=AT p (show b <= b+1 by omega);have h4:=KN p b;rw [rN,ih];unfold AS;by_cases e1:Ai p (b+1)=Ai p n
  ·rw [if_pos e1,if_pos e1]
   by_cases e2:Ai p b=Ai p n
   ·rw [if_pos e2,if_pos (by omega)]
   ·rw [if_neg e2,if_pos (by omega)]; omega
  ·rw [if_neg e1,if_neg e1]
   have e2:¬ Ai p b=Ai p n:=by omega
   rw [if_neg e2];split <;> omega
theorem LL (p:Nat->Bool) (n:Nat):∀ b,b<n->AS p n b <= rN p n b
 | 0,h=>by
  rw [Yf];exact Nat.zero_le _
 | b+1,h=>by
  rw [XZ p n b (by omega)];have h1:=AT p (show b+1 <= n by omega);have h4:=KN p b;have h3:=AT p (show b <= b+1 by omega);unfold AS;split
  ·omega
  ·split <;> omega
theorem Rb (p:Nat->Bool) (n:Nat):∀ b,rN p n b <= b
 | 0=>Nat.le_refl _
 | b+1=>by
  have:=Rb p n b;simp only [rN];split <;> omega
theorem Ac0 (p:Nat->Bool) (n:Nat):∀ b,b <= n->∀ v,v<rN p n b->v=0 ∨ v<Ai p n
 | 0,_,v,h=>by simp [rN] at h
 | b+1,hb,v,h=>by
  have ih:=Ac0 p n b (by omega) v;simp only [rN] at h;split at h
  ·exact ih h
  ·rename_i h2
   have h3:=LL p n b (by omega);by_cases hv:v<rN p n b
   ·exact ih hv
   ·have:v=AS p n b:=by omega
    rw [this];exact My (by omega)
end Go.Proofs.YtkbafjceglhjhaaGreatDoor.Sh
