/-
  The document's parts, threads, locations: the part of each edge. No conditions.
-/
import Derived.Test.YtjhnfomefcngfaaCyO
namespace Go.Proofs.Ytjhnfomefcngfaa.Ed
open Go.Sy
open Int (ofNat)
def PC (n:Nat) (p:Nat->Bool):Lp:=⟨(bmK 57 0 [0,3,4,5]),2,bmK 57 0 [0,3,4],2,n+1⟩
def RR (n:Nat) (p:Nat->Bool) (s:Int) (i:Nat) (h:Nat->Int) (j:Nat->V):St:=⟨(jsV 57 0 j [(0,.sl 1 n (λk=>bV (p k))),(3,.ref 1),(4,iV s),(5,nV i)]),[.row 3 1 0 (λ_=>.und),.row 3 1 i (λk=>iV (h k))]⟩
def D4 (n:Nat) (p:Nat->Bool) (s:Int) (i:Nat) (h:Nat->Int):Ex × St:=(.ex 0,⟨(jsV 57 0 (λ_=>.und) [(0,.sl 1 n (λk=>bV (p k))),(3,.ref 1),(4,iV s)]),[.row 3 1 0 (λ_=>.und),.row 3 1 i (λk=>iV (h k))]⟩)
noncomputable def Da (L:LT):St->T (Ex × St):=λst=>AF tab ⟨Ap tb0,L,Gl⟩ (A1 Try.f101 0) 0 st
section
variable (L:LT) (n:Nat) (p:Nat->Bool) (s:Int) (i:Nat) (h:Nat->Int)  (j:Nat->V)
include L n p s i h j
theorem AfT (h0:ilt (ofNat i) (ofNat n) = false):Ai (Da L) (PC n p) (RR n p s i h j) = some ((.ex 0),⟨(jsV 57 0 (λ_=>.und) [(0,(.sl 1 n (λk=>bV (p k)))),(3,(.ref 1)),(4,(iV s))]),[r3Z,.row 3 1 i (λk=>iV (h k))]⟩):=Aa [false] [ilt (ofNat i) (ofNat n)] (by kernel_rfl) (by simp only [h0] <;> rfl)
theorem AfR (h0:ilt (ofNat i) (ofNat n) = true) (h2:Bg i 1 8 = true) (h1:Af (ile 0 (ofNat i)) (ilt (ofNat i) (ofNat n)) = true) (h3:p i = true):Ai (Da L) (PC n p) (RR n p s i h j) = some (.nm,⟨(jsV 57 0 (λ_=>.und) [(0,(.sl 1 n (λk=>bV (p k)))),(3,(.ref 1)),(4,(iV (wr .i64 (Ae s 1)))),(5,(iV (wr .i64 (Ae (ofNat i) 1))))]),[r3Z,.row 3 1 (Bn i 1) (AE i (λk=>iV (h k)) (iV s))]⟩):=Aa [true,true,true,true] [ilt (ofNat i) (ofNat n),Bg i 1 8,Af (ile 0 (ofNat i)) (ilt (ofNat i) (ofNat n)),p i] (by kernel_rfl) (by simp only [h1] <;> simp only [*] <;> rfl)
theorem AfS (h0:ilt (ofNat i) (ofNat n) = true) (h2:Bg i 1 8 = true) (h1:Af (ile 0 (ofNat i)) (ilt (ofNat i) (ofNat n)) = true) (h3:p i = false):Ai (Da L) (PC n p) (RR n p s i h j) = some (.nm,⟨(jsV 57 0 (λ_=>.und) [(0,(.sl 1 n (λk=>bV (p k)))),(3,(.ref 1)),(4,(iV s)),(5,(iV (wr .i64 (Ae (ofNat i) 1))))]),[r3Z,.row 3 1 (Bn i 1) (AE i (λk=>iV (h k)) (iV s))]⟩):=Aa [true,true,true,false] [ilt (ofNat i) (ofNat n),Bg i 1 8,Af (ile 0 (ofNat i)) (ilt (ofNat i) (ofNat n)),p i] (by kernel_rfl) (by simp only [h1] <;> simp only [*] <;> rfl)
end
def Fn (n:Nat) (p:Nat->Bool) :St:=⟨(jsV 57 0 (λ_=>AA) [(0,(.sl 1 n (λk=>bV (p k)))),(2,(.ref 0)),(3,(.ref 1)),(4,(iV 0)),(5,(iV 0))]),[r3Z,r3Z]⟩
def K5 (n:Nat) (p:Nat->Bool):Lp:=⟨(bmK 57 0 [0,3,7]),2,bmK 57 0 [3],2,n+1⟩
def IW (n:Nat) (p:Nat->Bool) (d:Int) (g:Nat->Int) (j:Nat->V):St:=⟨(jsV 57 0 j [(0,.sl 1 n (λk=>bV (p k))),(3,.ref 1),(7,iV d)]),[.row 3 1 0 (λ_=>.und),.row 3 1 n (λk=>iV (g k))]⟩
def Hh (n:Nat) (p:Nat->Bool) (d:Int) (g:Nat->Int):Ex × St:=(.ex 2,⟨(jsV 57 0 (λ_=>.und) [(3,.ref 1)]),[.row 3 1 0 (λ_=>.und),.row 3 1 n (λk=>iV (g k))]⟩)
noncomputable def FG (L:LT):St->T (Ex × St):=λst=>AF tab ⟨Ap tb0,L,Gl⟩ (A1 Try.f101 2) 2 st
section
variable (L:LT) (n:Nat) (p:Nat->Bool) (d:Int) (g:Nat->Int)  (j:Nat->V)
include L n p d g j
theorem Af6 (h0:ile 0 d = false):Ai (FG L) (K5 n p) (IW n p d g j) = some ((.ex 2),⟨(jsV 57 0 (λ_=>.und) [(3,(.ref 1))]),[r3Z,.row 3 1 n (λk=>iV (g k))]⟩):=Aa (bbK 7 0) [ile 0 d,ile 0 d,ile 0 d,ile 0 d,ile 0 d,ile 0 d,false] (by kernel_rfl) (by simp only [h0] <;> rfl)
theorem Af5 (h0:ile 0 d = true) (h1:Af (ile 0 d) (ilt d (ofNat n)) = true) (h3:p (toN d) = true):Ai (FG L) (K5 n p) (IW n p d g j) = some ((.ex 2),⟨(jsV 57 0 (λ_=>.und) [(3,(.ref 1))]),[r3Z,.row 3 1 n (λk=>iV (g k))]⟩):=Aa (bbK 8 127) [ile 0 d,ile 0 d,ile 0 d,Af (ile 0 d) (ilt d (ofNat n)),ile 0 d,ile 0 d,ile 0 d,An (p (toN d))] (by kernel_rfl) (by simp only [h1] <;> simp only [h0,h3] <;> rfl)
theorem Af4 (h0:ile 0 d = true) (h1:Af (ile 0 d) (ilt d (ofNat n)) = true) (h3:p (toN d) = false) (h2:nlt (toN d) n = true):Ai (FG L) (K5 n p) (IW n p d g j) = some (.nm,⟨(jsV 57 0 (λ_=>.und) [(0,(.sl 1 n (λk=>bV (p k)))),(3,(.ref 1)),(7,(iV (wr .i64 (A2 d 1))))]),[r3Z,.row 3 1 n (Bl (λk=>iV (g k)) (toN d) (iV 0))]⟩):=Aa (bbK 10 1023) ((λc0 c1=>[c0,c0,c0,c1,c0,c0,c0,An (p (toN d)),c1,nlt (toN d) n]) (ile 0 d) (Af (ile 0 d) (ilt d (ofNat n)))) (by kernel_rfl) (by simp only [h1] <;> simp only [*] <;> rfl)
end
def VU (n:Nat) (p:Nat->Bool) (s:Int) (g:Nat->Int):Nat->V:=lkV AA [(1,.und),(2,.und),(4,(iV s)),(5,.und),(6,(nV n)),(8,.und),(9,.und),(10,.und),(11,.und),(12,.und),(13,.und),(14,.und),(15,.und),(16,.und),(17,.und),(18,.und),(19,.und),(20,.und),(21,.und),(22,.und),(23,.und),(24,(.sl 1 n (λk=>bV (p k)))),(25,(nV n)),(26,(nV n)),(27,(bV (ilt 0 (ofNat n)))),(28,(bV (ilt 0 (ofNat n)))),(29,(iV s)),(30,(bV (ilt 0 s))),(31,(bV (ilt 0 s))),(32,(bV (ilt 0 s))),(33,(.sl 1 n (λk=>bV (p k)))),(34,(nV n)),(35,(iV (wr .i64 (A2 (ofNat n) 1)))),(36,(.pp (bV (p (toN (wr .i64 (A2 (ofNat n) 1))))))),(37,(bV (p (toN (wr .i64 (A2 (ofNat n) 1)))))),(38,(bV (An (p (toN (wr .i64 (A2 (ofNat n) 1))))))),(39,(bV (An (p (toN (wr .i64 (A2 (ofNat n) 1))))))),(40,(nV n)),(41,(iV (wr .i64 (A2 (ofNat n) 1)))),(42,.und),(43,.und),(44,.und),(45,.und),(46,.und),(47,.und),(48,.und),(49,.und),(50,.und),(51,.und),(52,.und),(53,.und),(54,.und),(55,.und),(56,.und)]
section
variable (L:LT) (p0:PT) (n:Nat) (p:Nat->Bool) (s:Int) (g:Nat->Int)
include L p0 n p s g
theorem AdW (h0:ilt 0 (ofNat n) = false) (hp0:p0 (Da (onP 0 p0 (D4 n p s n g) L)) (Fn n p) = true):(Az (Ak tab ⟨Ap tb0,onP 0 p0 (D4 n p s n g) L,Gl⟩ Try.f101 [.sl 1 n (λk=>bV (p k))] [])).sem = some ((.ref 0),[.row 3 1 n (λk=>iV (g k))]):=Aa (bbK 12 1) ((λc0 c1=>[p0 (Da (onP 0 p0 (D4 n p s n g) L)) (Fn n p),c0,c0,c0,c1,c1,c1,c1,c1,c1,c1,c1]) (ilt 0 (ofNat n)) (false)) (by kernel_rfl) (by simp only [hp0] <;> simp only [h0] <;> rfl)
theorem AdV (h0:ilt 0 (ofNat n) = true) (h1:ilt 0 s = false) (hp0:p0 (Da (onP 0 p0 (D4 n p s n g) L)) (Fn n p) = true):(Az (Ak tab ⟨Ap tb0,onP 0 p0 (D4 n p s n g) L,Gl⟩ Try.f101 [.sl 1 n (λk=>bV (p k))] [])).sem = some ((.ref 0),[.row 3 1 n (λk=>iV (g k))]):=Aa (bbK 12 15) ((λc0 c1=>[p0 (Da (onP 0 p0 (D4 n p s n g) L)) (Fn n p),c0,c0,c0,c1,c1,c1,c1,c1,c1,c1,false]) (ilt 0 (ofNat n)) (ilt 0 s)) (by kernel_rfl) (by simp only [hp0] <;> simp only [h0,h1] <;> rfl)
theorem AdU (h0:ilt 0 (ofNat n) = true) (h1:ilt 0 s = true) (h2:Af (ile 0 (wr .i64 (A2 (ofNat n) 1))) (ilt (wr .i64 (A2 (ofNat n) 1)) (ofNat n)) = true) (h3:p (toN (wr .i64 (A2 (ofNat n) 1))) = true) (hp0:p0 (Da (onP 0 p0 (D4 n p s n g) L)) (Fn n p) = true):(Az (Ak tab ⟨Ap tb0,onP 0 p0 (D4 n p s n g) L,Gl⟩ Try.f101 [.sl 1 n (λk=>bV (p k))] [])).sem = some ((.ref 0),[.row 3 1 n (λk=>iV (g k))]):=Aa (bbK 13 4095) ((λc0 c1=>[p0 (Da (onP 0 p0 (D4 n p s n g) L)) (Fn n p),c0,c0,c0,c1,c1,c1,c1,Af (ile 0 (wr .i64 (A2 (ofNat n) 1))) (ilt (wr .i64 (A2 (ofNat n) 1)) (ofNat n)),c1,c1,c1,An (p (toN (wr .i64 (A2 (ofNat n) 1))))]) (ilt 0 (ofNat n)) (ilt 0 s)) (by kernel_rfl) (by simp only [hp0] <;> simp only [h2] <;> simp only [*] <;> rfl)
end
theorem AdT (L:LT) (p0:PT) (p2:PT) (n:Nat) (p:Nat->Bool) (s:Int) (g:Nat->Int) (d:Int) (u:Nat->Int) (h0:ilt 0 (ofNat n) = true) (h1:ilt 0 s = true) (h2:Af (ile 0 (wr .i64 (A2 (ofNat n) 1))) (ilt (wr .i64 (A2 (ofNat n) 1)) (ofNat n)) = true) (h3:p (toN (wr .i64 (A2 (ofNat n) 1))) = false) (hp0:p0 (Da (onP 0 p0 (D4 n p s n g) (onP 2 p2 (Hh n p d u) L))) (Fn n p) = true) (hp2:p2 (FG (onP 0 p0 (D4 n p s n g) (onP 2 p2 (Hh n p d u) L))) (IW n p (wr .i64 (A2 (ofNat n) 1)) g (VU n p s g)) = true):(Az (Ak tab ⟨Ap tb0,onP 0 p0 (D4 n p s n g) (onP 2 p2 (Hh n p d u) L),Gl⟩ Try.f101 [.sl 1 n (λk=>bV (p k))] [])).sem = some ((.ref 0),[.row 3 1 n (λk=>iV (u k))]):=Aa (bbK 14 16383) ((λc0 c1=>[p0 (Da (onP 0 p0 (D4 n p s n g) (onP 2 p2 (Hh n p d u) L))) (Fn n p),c0,c0,c0,c1,c1,c1,c1,Af (ile 0 (wr .i64 (A2 (ofNat n) 1))) (ilt (wr .i64 (A2 (ofNat n) 1)) (ofNat n)),c1,c1,c1,An (p (toN (wr .i64 (A2 (ofNat n) 1)))),p2 (FG (onP 0 p0 (D4 n p s n g) (onP 2 p2 (Hh n p d u) L))) (IW n p (wr .i64 (A2 (ofNat n) 1)) g (VU n p s g))]) (ilt 0 (ofNat n)) (ilt 0 s)) (by kernel_rfl) (by simp only [hp0,hp2] <;> simp only [h2] <;> simp only [*] <;> rfl)
theorem Sl (p:Nat->Bool) (i:Nat):AE i (λk=>iV (CG p i k)) (iV (ofNat (Aj p i))) = λk=>iV (CG p (i+1) k):=by
 funext k
 rw [BC,show Nat.beq k i = decide (k = i) by rw [Bool.eq_iff_iff]; simp]
 unfold CG
 by_cases h:k = i
 ·subst h; simp
 ·by_cases h2:k < i
  ·have:k < i+1:=by omega
   simp [h,h2,this]
  ·have:¬ k < i+1:=by omega
   simp [h,h2,this]
theorem Bi {p:Nat->Bool} {i:Nat} (h:p i = true):Aj p (i+1) = Aj p i+1:=by rw [Aj,h]
theorem Br {p:Nat->Bool} {i:Nat} (h:p i = false):Aj p (i+1) = Aj p i:=by rw [Aj,h]
theorem Ui (L:LT) (n:Nat) (p:Nat->Bool) (h8:n * 8 <= 140737488355328):∀ (e i:Nat) (j:Nat->V) (q:Nat),n = i+e->e < q ->
  (A9 (Da L) (PC n p) q (RR n p (ofNat (Aj p i)) i (CG p i) j)).sem = some (D4 n p (ofNat (Aj p n)) n (CG p n))
 | 0,i,j,q+1,h,_=>by
  have:n = i:=by omega
  subst this
  exact Ad (AfT L n p _ _ _ j (AD (Nat.le_refl _)))
 | e+1,i,j,q+1,h,h2=>by
  have hc:=AX p i
  have hl:i < n:=by omega
  have ha:Bg i 1 8 = true:=Ca (by omega)
  cases hp:p i with
  | true =>
   rw [Ad (AfR L n p (ofNat (Aj p i)) i (CG p i) j (ofNat_lt hl) ha (Aq hl) hp),Ax,Ao hl (by omega),Ao (show Aj p i < n by omega) (by omega),<- Bi hp,Sl p i]
   exact Ui L n p h8 e (i+1) (λ_=>.und) q (by omega) (by omega)
  | false =>
   rw [Ad (AfS L n p (ofNat (Aj p i)) i (CG p i) j (ofNat_lt hl) ha (Aq hl) hp),Ax,Ao hl (by omega),Sl p i,<- Br hp]
   exact Ui L n p h8 e (i+1) (λ_=>.und) q (by omega) (by omega)
theorem Vy (L:LT) (n:Nat) (p:Nat->Bool) (hn:n <= 4611686018427387904) (hs:0 < Aj p n):∀ (D:Nat) (j:Nat->V) (q:Nat),D <= n->D < q->(∀ k,D <= k->k < n->Aj p k = Aj p n) ->
  (A9 (FG L) (K5 n p) q (IW n p (dn D) (CG p D) j)).sem = some (Hh n p 0 (Av p n))
 | 0,j,q+1,h,_,hb=>by
  rw [<- H5 p n 0 h (λk hk=>absurd hk (Nat.not_lt_zero _)) hb]
  exact Ad (Af6 L n p (dn 0) (CG p 0) j rfl)
 | D+1,j,q+1,h,h2,hb=>by
  have hD:D < n:=by omega
  have hk:nlt D n = true:=by simpa [nlt] using hD
  cases hp:p D with
  | false =>
   have he:Aj p D = Aj p n:=by
    rw [<- Br hp]
    by_cases h5:D+1 = n
    ·rw [h5]
    ·exact hb (D+1) (Nat.le_refl _) (by omega)
   rw [show dn (D+1) = ofNat D from rfl,Ad (Af4 L n p (ofNat D) (CG p (D+1)) j (AI D) (Aq hD) hp hk),Ax,PP (show D <= n by omega) hn,Cl,show toN (ofNat D) = D from rfl,KY]
   exact Vy L n p hn hs D (λ_=>.und) q (by omega) (by omega) λk h3 h4=>by
    by_cases h5:k = D
    ·subst h5; exact he
    ·exact hb k (by omega) h4
  | true =>
   have h6:Aj p D < Aj p n:=by
    have:=AZ p (show D+1 <= n by omega)
    rw [Bi hp] at this
    omega
   rw [<- H5 p n (D+1) h (λk hk=>by have:=AZ p (show k <= D by omega); omega) hb]
   rw [show dn (D+1) = ofNat D from rfl]
   exact Ad (Af5 L n p (ofNat D) (CG p (D+1)) j (AI D) (Aq hD) hp)
def RC:List (Nat × List (Nat × V)):=[(0,[(1,iV 0)])]
def NK (n:Nat) (p:Nat->Bool):List (Nat × Lp):=[(0,PC n p),(2,K5 n p)]
def Lj:List V->T (V × List Blk)
 | [v]=>apB v λn p=>.br (CR n) (.leaf (.ref 0,[.row 3 1 n λk=>iV (Av p n k)])) .fail
 | _=>.fail
theorem Ack (n:Nat) (p:Nat->Bool):CS (Fn n p) [(1,iV 0)] = RR n p 0 0 (λ_=>0) (λi=>nth (Fn n p).t i):=by kernel_rfl
theorem AaF (n:Nat) (p:Nat->Bool) (h8:CR n = true) :
  (Az (Ak tab (cxZ Gl tb0 RC (NK n p)) Try.f101 [UR n p] [])).sem = some (.ref 0,[.row 3 1 n λk=>iV (Av p n k)]):=by
 have h8':n * 8 <= 140737488355328:=of_decide_eq_true h8
 have hn:n <= 4611686018427387904:=by omega
 have hL:=DU RC (NK n p)
 have h0:∀ L,(C8 RC (NK n p) 0 (Da L) (Fn n p)).sem = some (D4 n p (ofNat (Aj p n)) n (CG p n)):=λL=>by
  show (A9 (Da L) (PC n p) (n+1) (CS (Fn n p) [(1,iV 0)])).sem = _
  rw [Ack,<- Uj p]
  exact Ui L n p h8' n 0 _ (n+1) (by omega) (by omega)
 cases n with
 | zero =>
  rw [<- Q6 p 0 rfl]
  exact A7 (Ay hL hL) _ (AdW _ _ 0 p _ _ rfl (Am (h0 _)))
 | succ m =>
  have c0:ilt 0 (ofNat (m+1)) = true:=by rw [show (0:Int) = ofNat 0 from rfl,CJ]; simp
  have e1:wr .i64 (A2 (ofNat (m+1)) 1) = ofNat m:=PP (Nat.le_refl _) hn
  have e2:toN (ofNat m) = m:=rfl
  cases hs:ilt 0 (ofNat (Aj p (m+1))) with
  | false =>
   have hz:Aj p (m+1) = 0:=by simpa [ilt] using hs
   have hw:=A7 (Ay hL hL) _ (AdV _ _ (m+1) p _ _ c0 hs (Am (h0 _)))
   rw [<- Q6 p (m+1) hz]
   exact hw
  | true =>
   have hz:0 < Aj p (m+1):=by simpa [ilt] using hs
   have hb:Af (ile 0 (wr .i64 (A2 (ofNat (m+1)) 1))) (ilt (wr .i64 (A2 (ofNat (m+1)) 1)) (ofNat (m+1))) = true:=by rw [e1]; exact Aq (Nat.lt_succ_self m)
   cases hp:p m with
   | true =>
    have hw:=A7 (Ay hL hL) _ (AdU _ _ (m+1) p _ _ c0 hs hb (by rw [e1,e2]; exact hp) (Am (h0 _)))
    rw [<- H5 p (m+1) (m+1) (Nat.le_refl _) (λk hk=>by have:=AZ p (show k <= m by omega); rw [Bi hp]; omega) (λk h1 h2=>by omega)]
    exact hw
   | false =>
    have h2:=λL j=>Vy L (m+1) p hn hz (m+1) j (m+2) (Nat.le_refl _) (by omega) (λk h1 h2=>by omega)
    rw [show dn (m+1) = ofNat m from rfl,<- e1] at h2
    exact A7 (Ay (Ay hL hL) hL) _ (AdT _ _ _ (m+1) p _ (CG p (m+1)) 0 (Av p (m+1)) c0 hs hb (by rw [e1,e2]; exact hp) (Am (h0 _)) (Am (h2 _ _)))
theorem AkD:A6 Try.prog Gl 101 Lj:=by
 refine A5 AO AP Try.func101 (by kernel_rfl) (by kernel_rfl) λvs v h' h=>?_
 unfold Lj at h
 split at h
 ·rename_i u
  obtain ⟨n,p,ha,h1⟩:=Aar h
  obtain ⟨h8,hq⟩:=Ag h1
  have:=Ac hq
  simp only [Prod.mk.injEq] at this
  obtain ⟨rfl,rfl⟩:=this
  have hA:BJ [u] [UR n p]:=λS w cs hv=>by
   obtain ⟨c,l,rfl,q1,q2⟩:=hv
   exact ⟨c,l,rfl,ha S w c q1,q2⟩
  have hx:=JW Dd RC (NK n p)
  exact ⟨_,cxZ Gl tb0 RC (NK n p),_,hA,rfl,hx.1,hx.2,AaF n p h8,AC.refl _⟩
 ·cases h
theorem Ce {n:Nat}:AW [.row 3 1 n (λ_=>iV 0)] = true:=by
 simp [AW,LL,iV]
noncomputable def TK:List (Nat × (List V->T (V × List Blk))):=(22,BQ λe=>bV (As e)) :: (23,BQ λe=>bV (Ar e)) :: (101,Lj) :: []
theorem Vf:AB Try.prog Gl TK:=.cons p60 <| .cons p61 <| .cons AkD .nil
def J4 (p:Nat->Bool) (i k:Nat):Bool:=decide (k < i) && p k
theorem Y8 (p:Nat->Bool):J4 p 0 = λ_=>false:=by
 funext k
 simp [J4]
theorem Px (p:Nat->Bool) (i:Nat):AE i (λk=>bV (J4 p i k)) (bV (p i)) = λk=>bV (J4 p (i+1) k):=by
 funext k
 rw [BC,show Nat.beq k i = decide (k = i) by rw [Bool.eq_iff_iff]; simp]
 unfold J4
 by_cases h:k = i
 ·subst h; simp
 ·by_cases h2:k < i
  ·have:k < i+1:=by omega
   simp [h,h2,this]
  ·have:¬ k < i+1:=by omega
   simp [h,h2,this]
theorem DL {p q:Nat->Bool}:∀ k,(∀ i,i < k->q i = p i)->Aj q k = Aj p k
 | 0,_=>rfl
 | k+1,h=>by
  rw [Aj,Aj,h k (Nat.lt_succ_self k),DL k λi hi=>h i (by omega)]
theorem N7 (p:Nat->Bool) (n:Nat):Av (J4 p n) n = Av p n:=by
 have hq:∀ i,i < n->J4 p n i = p i:=λi hi=>by simp [J4,hi]
 funext k
 unfold Av
 by_cases h:k < n
 ·rw [DL k λi hi=>hq i (by omega),DL n hq]
 ·simp [h]
theorem HJ {n:Nat} (h:AN n = true):n * 8 <= 140737488355328:=of_decide_eq_true (Fm h)
def S5 (n:Nat) (f:Nat->E6):Lp:=⟨(bmK 21 0 [0,3,4]),2,bmK 21 0 [3],2,n+1⟩
def AaW (n:Nat) (f:Nat->E6) (i:Nat) (h:Nat->Bool) (j:Nat->V):St:=⟨(jsV 21 0 j [(0,.sl 6 n (λi=>eV (f i))),(3,.ref 1),(4,nV i)]),[.row 3 1 0 (λ_=>.und),.row 4 1 i (λk=>bV (h k))]⟩
def Tk (n:Nat) (f:Nat->E6) (i:Nat) (h:Nat->Bool):Ex × St:=(.ex 0,⟨(jsV 21 0 (λ_=>.und) [(3,.ref 1)]),[.row 3 1 0 (λ_=>.und),.row 4 1 i (λk=>bV (h k))]⟩)
noncomputable def JY (L:LT):St->T (Ex × St):=λst=>AF tab ⟨Ap TK,L,Gl⟩ (A1 Try.f66 0) 0 st
section
variable (L:LT) (n:Nat) (f:Nat->E6) (i:Nat) (h:Nat->Bool)  (j:Nat->V)
include L n f i h j
theorem AiJ (h0:ilt (ofNat i) (ofNat n) = false):Ai (JY L) (S5 n f) (AaW n f i h j) = some ((.ex 0),⟨(jsV 21 0 (λ_=>.und) [(3,(.ref 1))]),[r3Z,.row 4 1 i (λk=>bV (h k))]⟩):=Aa [false] [ilt (ofNat i) (ofNat n)] (by kernel_rfl) (by simp only [h0] <;> rfl)
theorem AiI (h0:ilt (ofNat i) (ofNat n) = true) (h1:Af (ile 0 (ofNat i)) (ilt (ofNat i) (ofNat n)) = true) (h2:Bg i 1 1 = true):Ai (JY L) (S5 n f) (AaW n f i h j) = some (.nm,⟨(jsV 21 0 (λ_=>.und) [(0,(.sl 6 n (λi=>eV (f i)))),(3,(.ref 1)),(4,(iV (wr .i64 (Ae (ofNat i) 1))))]),[r3Z,.row 4 1 (Bn i 1) (AE i (λk=>bV (h k)) (bV (As (f i))))]⟩):=Aa [true,true,true] [ilt (ofNat i) (ofNat n),Af (ile 0 (ofNat i)) (ilt (ofNat i) (ofNat n)),Bg i 1 1] (by kernel_rfl) (by simp only [h1] <;> simp only [h0,h2] <;> rfl)
end
def PN (n:Nat) (f:Nat->E6) :St:=⟨(jsV 21 0 (λ_=>AA) [(0,(.sl 6 n (λi=>eV (f i)))),(2,(.ref 0)),(3,(.ref 1)),(4,(iV 0))]),[r3Z,.row 4 1 0 (λ_=>.und)]⟩
theorem AjM (L:LT) (p0:PT) (n:Nat) (f:Nat->E6) (q:Nat->Bool) (h0:CR n = true) (h10:AW [.row 3 1 n (λ_=>iV 0)] = true) (hp0:p0 (JY (onP 0 p0 (Tk n f n q) L)) (PN n f) = true):(Az (Ak tab ⟨Ap TK,onP 0 p0 (Tk n f n q) L,Gl⟩ Try.f66 [A4 n f] [])).sem = some ((.ref 0),[.row 3 1 n (λk=>iV (Av q n k))]):=Aa [true,true,true,true] [p0 (JY (onP 0 p0 (Tk n f n q) L)) (PN n f),Au n (λ_=>true),CR n,AW [.row 3 1 n (λ_=>iV 0)]] (by kernel_rfl) (by simp only [hp0] <;> simp only [h0,h10,Aw,Ce] <;> rfl)
theorem Ac6 (L:LT) (n:Nat) (f:Nat->E6) (h8:n * 8 <= 140737488355328):∀ (e i:Nat) (j:Nat->V) (q:Nat),n = i+e->e < q ->
  (A9 (JY L) (S5 n f) q (AaW n f i (J4 (λk=>As (f k)) i) j)).sem = some (Tk n f n (J4 (λk=>As (f k)) n))
 | 0,i,j,q+1,h,_=>by
  have:n = i:=by omega
  subst this
  exact Ad (AiJ L n f _ _ j (AD (Nat.le_refl _)))
 | e+1,i,j,q+1,h,h2=>by
  have hl:i < n:=by omega
  have ha:Bg i 1 1 = true:=Ca (by omega)
  rw [Ad (AiI L n f i (J4 (λk=>As (f k)) i) j (ofNat_lt hl) (Aq hl) ha),Ax,Ao hl (by omega)]
  have:=Px (λk=>As (f k)) i
  rw [this]
  exact Ac6 L n f h8 e (i+1) (λ_=>.und) q (by omega) (by omega)
def Aa0:List (Nat × List (Nat × V)):=[(0,[(1,bV false)])]
theorem Ag9 (n:Nat) (f:Nat->E6):CS (PN n f) [(1,bV false)] = AaW n f 0 (λ_=>false) (λi=>nth (PN n f).t i):=by kernel_rfl
def Q8:List V->T (V × List Blk):=Hp λn f=>.br (AN n) (.leaf (.ref 0,[.row 3 1 n λk=>iV (Av (λk=>As (f k)) n k)])) .fail
theorem p94:A6 Try.prog Gl 66 Q8:=by
 refine A5 AO AP Try.func66 (by kernel_rfl) (by kernel_rfl) λvs v h' h=>?_
 obtain ⟨n,f,ha,h1⟩:=CU h
 obtain ⟨hn,hq⟩:=Ag h1
 have:=Ac hq
 simp only [Prod.mk.injEq] at this
 obtain ⟨rfl,rfl⟩:=this
 have hx:=JW Vf Aa0 [(0,S5 n f)]
 have hL:=DU Aa0 [(0,S5 n f)]
 have h0:∀ L,(C8 Aa0 [(0,S5 n f)] 0 (JY L) (PN n f)).sem = some (Tk n f n (J4 (λk=>As (f k)) n)):=λL=>by
  show (A9 (JY L) (S5 n f) (n+1) (CS (PN n f) [(1,bV false)])).sem = _
  rw [Ag9,<- Y8 (λk=>As (f k))]
  exact Ac6 L n f (HJ hn) n 0 _ (n+1) (by omega) (by omega)
 have hw:=A7 (Ay hL hL) _ (AjM _ _ n f _ (Fm hn) Ce (Am (h0 _)))
 rw [N7 (λk=>As (f k)) n] at hw
 exact ⟨_,cxZ Gl TK Aa0 [(0,S5 n f)],_,ha,rfl,hx.1,hx.2,hw,AC.refl _⟩
def lp95 (n:Nat) (f:Nat->E6):Lp:=⟨(bmK 21 0 [0,3,4]),2,bmK 21 0 [3],2,n+1⟩
def st95 (n:Nat) (f:Nat->E6) (i:Nat) (h:Nat->Bool) (j:Nat->V):St:=⟨(jsV 21 0 j [(0,.sl 6 n (λi=>eV (f i))),(3,.ref 1),(4,nV i)]),[.row 3 1 0 (λ_=>.und),.row 4 1 i (λk=>bV (h k))]⟩
def Tj (n:Nat) (f:Nat->E6) (i:Nat) (h:Nat->Bool):Ex × St:=(.ex 0,⟨(jsV 21 0 (λ_=>.und) [(3,.ref 1)]),[.row 3 1 0 (λ_=>.und),.row 4 1 i (λk=>bV (h k))]⟩)
noncomputable def body95 (L:LT):St->T (Ex × St):=λst=>AF tab ⟨Ap TK,L,Gl⟩ (A1 Try.f67 0) 0 st
section
variable (L:LT) (n:Nat) (f:Nat->E6) (i:Nat) (h:Nat->Bool)  (j:Nat->V)
include L n f i h j
theorem AiH (h0:ilt (ofNat i) (ofNat n) = false):Ai (body95 L) (lp95 n f) (st95 n f i h j) = some ((.ex 0),⟨(jsV 21 0 (λ_=>.und) [(3,(.ref 1))]),[r3Z,.row 4 1 i (λk=>bV (h k))]⟩):=Aa [false] [ilt (ofNat i) (ofNat n)] (by kernel_rfl) (by simp only [h0] <;> rfl)
theorem AiG (h0:ilt (ofNat i) (ofNat n) = true) (h1:Af (ile 0 (ofNat i)) (ilt (ofNat i) (ofNat n)) = true) (h2:Bg i 1 1 = true):Ai (body95 L) (lp95 n f) (st95 n f i h j) = some (.nm,⟨(jsV 21 0 (λ_=>.und) [(0,(.sl 6 n (λi=>eV (f i)))),(3,(.ref 1)),(4,(iV (wr .i64 (Ae (ofNat i) 1))))]),[r3Z,.row 4 1 (Bn i 1) (AE i (λk=>bV (h k)) (bV (Ar (f i))))]⟩):=Aa [true,true,true] [ilt (ofNat i) (ofNat n),Af (ile 0 (ofNat i)) (ilt (ofNat i) (ofNat n)),Bg i 1 1] (by kernel_rfl) (by simp only [h1] <;> simp only [h0,h2] <;> rfl)
end
def PM (n:Nat) (f:Nat->E6) :St:=⟨(jsV 21 0 (λ_=>AA) [(0,(.sl 6 n (λi=>eV (f i)))),(2,(.ref 0)),(3,(.ref 1)),(4,(iV 0))]),[r3Z,.row 4 1 0 (λ_=>.und)]⟩
theorem AjL (L:LT) (p0:PT) (n:Nat) (f:Nat->E6) (q:Nat->Bool) (h0:CR n = true) (h10:AW [.row 3 1 n (λ_=>iV 0)] = true) (hp0:p0 (body95 (onP 0 p0 (Tj n f n q) L)) (PM n f) = true):(Az (Ak tab ⟨Ap TK,onP 0 p0 (Tj n f n q) L,Gl⟩ Try.f67 [A4 n f] [])).sem = some ((.ref 0),[.row 3 1 n (λk=>iV (Av q n k))]):=Aa [true,true,true,true] [p0 (body95 (onP 0 p0 (Tj n f n q) L)) (PM n f),Au n (λ_=>true),CR n,AW [.row 3 1 n (λ_=>iV 0)]] (by kernel_rfl) (by simp only [hp0] <;> simp only [h0,h10,Aw,Ce] <;> rfl)
theorem run95 (L:LT) (n:Nat) (f:Nat->E6) (h8:n * 8 <= 140737488355328):∀ (e i:Nat) (j:Nat->V) (q:Nat),n = i+e->e < q ->
  (A9 (body95 L) (lp95 n f) q (st95 n f i (J4 (λk=>Ar (f k)) i) j)).sem = some (Tj n f n (J4 (λk=>Ar (f k)) n))
 | 0,i,j,q+1,h,_=>by
  have:n = i:=by omega
  subst this
  exact Ad (AiH L n f _ _ j (AD (Nat.le_refl _)))
 | e+1,i,j,q+1,h,h2=>by
  have hl:i < n:=by omega
  have ha:Bg i 1 1 = true:=Ca (by omega)
  rw [Ad (AiG L n f i (J4 (λk=>Ar (f k)) i) j (ofNat_lt hl) (Aq hl) ha),Ax,Ao hl (by omega)]
  have:=Px (λk=>Ar (f k)) i
  rw [this]
  exact run95 L n f h8 e (i+1) (λ_=>.und) q (by omega) (by omega)
def Aaz:List (Nat × List (Nat × V)):=[(0,[(1,bV false)])]
theorem Ag8 (n:Nat) (f:Nat->E6):CS (PM n f) [(1,bV false)] = st95 n f 0 (λ_=>false) (λi=>nth (PM n f).t i):=by kernel_rfl
def Q7:List V->T (V × List Blk):=Hp λn f=>.br (AN n) (.leaf (.ref 0,[.row 3 1 n λk=>iV (Av (λk=>Ar (f k)) n k)])) .fail
theorem p95:A6 Try.prog Gl 67 Q7:=by
 refine A5 AO AP Try.func67 (by kernel_rfl) (by kernel_rfl) λvs v h' h=>?_
 obtain ⟨n,f,ha,h1⟩:=CU h
 obtain ⟨hn,hq⟩:=Ag h1
 have:=Ac hq
 simp only [Prod.mk.injEq] at this
 obtain ⟨rfl,rfl⟩:=this
 have hx:=JW Vf Aaz [(0,lp95 n f)]
 have hL:=DU Aaz [(0,lp95 n f)]
 have h0:∀ L,(C8 Aaz [(0,lp95 n f)] 0 (body95 L) (PM n f)).sem = some (Tj n f n (J4 (λk=>Ar (f k)) n)):=λL=>by
  show (A9 (body95 L) (lp95 n f) (n+1) (CS (PM n f) [(1,bV false)])).sem = _
  rw [Ag8,<- Y8 (λk=>Ar (f k))]
  exact run95 L n f (HJ hn) n 0 _ (n+1) (by omega) (by omega)
 have hw:=A7 (Ay hL hL) _ (AjL _ _ n f _ (Fm hn) Ce (Am (h0 _)))
 rw [N7 (λk=>Ar (f k)) n] at hw
 exact ⟨_,cxZ Gl TK Aaz [(0,lp95 n f)],_,ha,rfl,hx.1,hx.2,hw,AC.refl _⟩
noncomputable def tb53:List (Nat × (List V->T (V × List Blk))):=(94,Ajk) :: (66,Q8) :: (67,Q7) :: []
theorem tb53_ok:AB Try.prog Gl tb53:=.cons p98 <| .cons p94 <| .cons p95 .nil
def Ks (g:Nat->(Nat->E6)->Nat->Int):List V->T (V × List Blk):=Hp λn f=>.br (AN n) (match BM n f with
 | true=>.leaf (.tup [.ref 0,iV 0],[.row 3 1 n λk=>iV (g n f k)])
 | false=>.leaf (.tup [.ref 0,iV 30],[.row 3 1 0 λ_=>.und])) .fail
section
variable (L:LT) (n:Nat) (f:Nat->E6)
include L n f
theorem Akb (h0:Ah n = true) (h1:BM n f = true) (h2:AN n = true):(Az (Ak tab ⟨Ap tb53,L,Gl⟩ Try.f57 [A4 n f] [])).sem = some ((.tup [.ref 0,iV 0]),[.row 3 1 n (λk=>iV (Av (λk=>As (f k)) n k))]):=Aa [true,true,false,true,true] [Au n (λ_=>true),Ah n,An (BM n f),Au n (λ_=>true),AN n] (by kernel_rfl) (by simp only [*,Aw] <;> rfl)
theorem Akc (h0:Ah n = true) (h1:BM n f = false):(Az (Ak tab ⟨Ap tb53,L,Gl⟩ Try.f57 [A4 n f] [])).sem = some ((.tup [.ref 0,iV 30]),[r3Z]):=Aa [true,true,true] [Au n (λ_=>true),Ah n,An (BM n f)] (by kernel_rfl) (by simp only [h0,h1,Aw] <;> rfl)
theorem AjZ (h0:Ah n = true) (h1:BM n f = true) (h2:AN n = true):(Az (Ak tab ⟨Ap tb53,L,Gl⟩ Try.f58 [A4 n f] [])).sem = some ((.tup [.ref 0,iV 0]),[.row 3 1 n (λk=>iV (Av (λk=>Ar (f k)) n k))]):=Aa [true,true,false,true,true] [Au n (λ_=>true),Ah n,An (BM n f),Au n (λ_=>true),AN n] (by kernel_rfl) (by simp only [*,Aw] <;> rfl)
theorem Aka (h0:Ah n = true) (h1:BM n f = false):(Az (Ak tab ⟨Ap tb53,L,Gl⟩ Try.f58 [A4 n f] [])).sem = some ((.tup [.ref 0,iV 30]),[r3Z]):=Aa [true,true,true] [Au n (λ_=>true),Ah n,An (BM n f)] (by kernel_rfl) (by simp only [h0,h1,Aw] <;> rfl)
end
theorem p53:A6 Try.prog Gl 57 (Ks λn f=>Av (λk=>As (f k)) n):=by
 refine A5 AO AP Try.func57 (by kernel_rfl) (by kernel_rfl) λvs v h' h=>?_
 obtain ⟨n,f,ha,h1⟩:=CU h
 obtain ⟨hn,hq⟩:=Ag h1
 have hx:=AQ tb53_ok []
 have hs:Ah n = true:=Z7 (Fm hn)
 cases hm:BM n f with
 | true =>
  rw [hm] at hq
  have:=Ac hq
  simp only [Prod.mk.injEq] at this
  obtain ⟨rfl,rfl⟩:=this
  exact ⟨_,AS Gl tb53 [],_,ha,rfl,hx.1,hx.2,Akb _ n f hs hm hn,AC.refl _⟩
 | false =>
  rw [hm] at hq
  have:=Ac hq
  simp only [Prod.mk.injEq] at this
  obtain ⟨rfl,rfl⟩:=this
  exact ⟨_,AS Gl tb53 [],_,ha,rfl,hx.1,hx.2,Akc _ n f hs hm,AC.refl _⟩
theorem p54:A6 Try.prog Gl 58 (Ks λn f=>Av (λk=>Ar (f k)) n):=by
 refine A5 AO AP Try.func58 (by kernel_rfl) (by kernel_rfl) λvs v h' h=>?_
 obtain ⟨n,f,ha,h1⟩:=CU h
 obtain ⟨hn,hq⟩:=Ag h1
 have hx:=AQ tb53_ok []
 have hs:Ah n = true:=Z7 (Fm hn)
 cases hm:BM n f with
 | true =>
  rw [hm] at hq
  have:=Ac hq
  simp only [Prod.mk.injEq] at this
  obtain ⟨rfl,rfl⟩:=this
  exact ⟨_,AS Gl tb53 [],_,ha,rfl,hx.1,hx.2,AjZ _ n f hs hm hn,AC.refl _⟩
 | false =>
  rw [hm] at hq
  have:=Ac hq
  simp only [Prod.mk.injEq] at this
  obtain ⟨rfl,rfl⟩:=this
  exact ⟨_,AS Gl tb53 [],_,ha,rfl,hx.1,hx.2,Aka _ n f hs hm,AC.refl _⟩
end Go.Proofs.Ytjhnfomefcngfaa.Ed
