/-
  The document's parts, threads, locations: the part of each edge. No conditions.
-/
import Derived.Test.YtjhnfomefcngfaaCyO
namespace Go.Proofs.Ytjhnfomefcngfaa.Ed
open Go.Sy
open Int (ofNat)
def P9 (n:Nat) (p:Nat->Bool):Lp:=⟨(bmK 57 0 [0,3,4,5]),2,bmK 57 0 [0,3,4],2,n+1⟩
def RO (n:Nat) (p:Nat->Bool) (s:Int) (i:Nat) (h:Nat->Int) (j:Nat->V):St:=⟨(jsV 57 0 j [(0,.sl 1 n (λk=>bV (p k))),(3,.ref 1),(4,iV s),(5,nV i)]),[.row 3 1 0 (λ_=>.und),.row 3 1 i (λk=>iV (h k))]⟩
def D7 (n:Nat) (p:Nat->Bool) (s:Int) (i:Nat) (h:Nat->Int):Ex × St:=(.ex 0,⟨(jsV 57 0 (λ_=>.und) [(0,.sl 1 n (λk=>bV (p k))),(3,.ref 1),(4,iV s)]),[.row 3 1 0 (λ_=>.und),.row 3 1 i (λk=>iV (h k))]⟩)
noncomputable def Df (L:LT):St->T (Ex × St):=λst=>AG tab ⟨Aq tb0,L,Gl⟩ (A1 Try.f101 0) 0 st
section
variable (L:LT) (n:Nat) (p:Nat->Bool) (s:Int) (i:Nat) (h:Nat->Int)  (j:Nat->V)
include L n p s i h j
theorem AfL (h0:ilt (ofNat i) (ofNat n) = false):Aj (Df L) (P9 n p) (RO n p s i h j) = some ((.ex 0),⟨(jsV 57 0 (λ_=>.und) [(0,(.sl 1 n (λk=>bV (p k)))),(3,(.ref 1)),(4,(iV s))]),[r3Z,.row 3 1 i (λk=>iV (h k))]⟩):=Aa [false] [ilt (ofNat i) (ofNat n)] (by kernel_rfl) (by simp only [h0] <;> rfl)
theorem AfJ (h0:ilt (ofNat i) (ofNat n) = true) (h2:Bh i 1 8 = true) (h1:Af (ile 0 (ofNat i)) (ilt (ofNat i) (ofNat n)) = true) (h3:p i = true):Aj (Df L) (P9 n p) (RO n p s i h j) = some (.nm,⟨(jsV 57 0 (λ_=>.und) [(0,(.sl 1 n (λk=>bV (p k)))),(3,(.ref 1)),(4,(iV (wr .i64 (Ae s 1)))),(5,(iV (wr .i64 (Ae (ofNat i) 1))))]),[r3Z,.row 3 1 (Bp i 1) (AB i (λk=>iV (h k)) (iV s))]⟩):=Aa [true,true,true,true] [ilt (ofNat i) (ofNat n),Bh i 1 8,Af (ile 0 (ofNat i)) (ilt (ofNat i) (ofNat n)),p i] (by kernel_rfl) (by simp only [h1] <;> simp only [*] <;> rfl)
theorem AfK (h0:ilt (ofNat i) (ofNat n) = true) (h2:Bh i 1 8 = true) (h1:Af (ile 0 (ofNat i)) (ilt (ofNat i) (ofNat n)) = true) (h3:p i = false):Aj (Df L) (P9 n p) (RO n p s i h j) = some (.nm,⟨(jsV 57 0 (λ_=>.und) [(0,(.sl 1 n (λk=>bV (p k)))),(3,(.ref 1)),(4,(iV s)),(5,(iV (wr .i64 (Ae (ofNat i) 1))))]),[r3Z,.row 3 1 (Bp i 1) (AB i (λk=>iV (h k)) (iV s))]⟩):=Aa [true,true,true,false] [ilt (ofNat i) (ofNat n),Bh i 1 8,Af (ile 0 (ofNat i)) (ilt (ofNat i) (ofNat n)),p i] (by kernel_rfl) (by simp only [h1] <;> simp only [*] <;> rfl)
end
def Fm (n:Nat) (p:Nat->Bool) :St:=⟨(jsV 57 0 (λ_=>A9) [(0,(.sl 1 n (λk=>bV (p k)))),(2,(.ref 0)),(3,(.ref 1)),(4,(iV 0)),(5,(iV 0))]),[r3Z,r3Z]⟩
def K6 (n:Nat) (p:Nat->Bool):Lp:=⟨(bmK 57 0 [0,3,7]),2,bmK 57 0 [3],2,n+1⟩
def IX (n:Nat) (p:Nat->Bool) (d:Int) (g:Nat->Int) (j:Nat->V):St:=⟨(jsV 57 0 j [(0,.sl 1 n (λk=>bV (p k))),(3,.ref 1),(7,iV d)]),[.row 3 1 0 (λ_=>.und),.row 3 1 n (λk=>iV (g k))]⟩
def Hi (n:Nat) (p:Nat->Bool) (d:Int) (g:Nat->Int):Ex × St:=(.ex 2,⟨(jsV 57 0 (λ_=>.und) [(3,.ref 1)]),[.row 3 1 0 (λ_=>.und),.row 3 1 n (λk=>iV (g k))]⟩)
noncomputable def FD (L:LT):St->T (Ex × St):=λst=>AG tab ⟨Aq tb0,L,Gl⟩ (A1 Try.f101 2) 2 st
section
variable (L:LT) (n:Nat) (p:Nat->Bool) (d:Int) (g:Nat->Int)  (j:Nat->V)
include L n p d g j
theorem Afy (h0:ile 0 d = false):Aj (FD L) (K6 n p) (IX n p d g j) = some ((.ex 2),⟨(jsV 57 0 (λ_=>.und) [(3,(.ref 1))]),[r3Z,.row 3 1 n (λk=>iV (g k))]⟩):=Aa (bbK 7 0) [ile 0 d,ile 0 d,ile 0 d,ile 0 d,ile 0 d,ile 0 d,false] (by kernel_rfl) (by simp only [h0] <;> rfl)
theorem Afx (h0:ile 0 d = true) (h1:Af (ile 0 d) (ilt d (ofNat n)) = true) (h3:p (toN d) = true):Aj (FD L) (K6 n p) (IX n p d g j) = some ((.ex 2),⟨(jsV 57 0 (λ_=>.und) [(3,(.ref 1))]),[r3Z,.row 3 1 n (λk=>iV (g k))]⟩):=Aa (bbK 8 127) [ile 0 d,ile 0 d,ile 0 d,Af (ile 0 d) (ilt d (ofNat n)),ile 0 d,ile 0 d,ile 0 d,Ah (p (toN d))] (by kernel_rfl) (by simp only [h1] <;> simp only [h0,h3] <;> rfl)
theorem Afw (h0:ile 0 d = true) (h1:Af (ile 0 d) (ilt d (ofNat n)) = true) (h3:p (toN d) = false) (h2:nlt (toN d) n = true):Aj (FD L) (K6 n p) (IX n p d g j) = some (.nm,⟨(jsV 57 0 (λ_=>.und) [(0,(.sl 1 n (λk=>bV (p k)))),(3,(.ref 1)),(7,(iV (wr .i64 (Au d 1))))]),[r3Z,.row 3 1 n (Bt (λk=>iV (g k)) (toN d) (iV 0))]⟩):=Aa (bbK 10 1023) ((λc0 c1=>[c0,c0,c0,c1,c0,c0,c0,Ah (p (toN d)),c1,nlt (toN d) n]) (ile 0 d) (Af (ile 0 d) (ilt d (ofNat n)))) (by kernel_rfl) (by simp only [h1] <;> simp only [*] <;> rfl)
end
def VL (n:Nat) (p:Nat->Bool) (s:Int) (g:Nat->Int):Nat->V:=lkV A9 [(1,.und),(2,.und),(4,(iV s)),(5,.und),(6,(nV n)),(8,.und),(9,.und),(10,.und),(11,.und),(12,.und),(13,.und),(14,.und),(15,.und),(16,.und),(17,.und),(18,.und),(19,.und),(20,.und),(21,.und),(22,.und),(23,.und),(24,(.sl 1 n (λk=>bV (p k)))),(25,(nV n)),(26,(nV n)),(27,(bV (ilt 0 (ofNat n)))),(28,(bV (ilt 0 (ofNat n)))),(29,(iV s)),(30,(bV (ilt 0 s))),(31,(bV (ilt 0 s))),(32,(bV (ilt 0 s))),(33,(.sl 1 n (λk=>bV (p k)))),(34,(nV n)),(35,(iV (wr .i64 (Au (ofNat n) 1)))),(36,(.pp (bV (p (toN (wr .i64 (Au (ofNat n) 1))))))),(37,(bV (p (toN (wr .i64 (Au (ofNat n) 1)))))),(38,(bV (Ah (p (toN (wr .i64 (Au (ofNat n) 1))))))),(39,(bV (Ah (p (toN (wr .i64 (Au (ofNat n) 1))))))),(40,(nV n)),(41,(iV (wr .i64 (Au (ofNat n) 1)))),(42,.und),(43,.und),(44,.und),(45,.und),(46,.und),(47,.und),(48,.und),(49,.und),(50,.und),(51,.und),(52,.und),(53,.und),(54,.und),(55,.und),(56,.und)]
section
variable (L:LT) (p0:PT) (n:Nat) (p:Nat->Bool) (s:Int) (g:Nat->Int)
include L p0 n p s g
theorem AdQ (h0:ilt 0 (ofNat n) = false) (hp0:p0 (Df (onP 0 p0 (D7 n p s n g) L)) (Fm n p) = true):(A2 (An tab ⟨Aq tb0,onP 0 p0 (D7 n p s n g) L,Gl⟩ Try.f101 [.sl 1 n (λk=>bV (p k))] [])).sem = some ((.ref 0),[.row 3 1 n (λk=>iV (g k))]):=Aa (bbK 12 1) ((λc0 c1=>[p0 (Df (onP 0 p0 (D7 n p s n g) L)) (Fm n p),c0,c0,c0,c1,c1,c1,c1,c1,c1,c1,c1]) (ilt 0 (ofNat n)) (false)) (by kernel_rfl) (by simp only [hp0] <;> simp only [h0] <;> rfl)
theorem AdP (h0:ilt 0 (ofNat n) = true) (h1:ilt 0 s = false) (hp0:p0 (Df (onP 0 p0 (D7 n p s n g) L)) (Fm n p) = true):(A2 (An tab ⟨Aq tb0,onP 0 p0 (D7 n p s n g) L,Gl⟩ Try.f101 [.sl 1 n (λk=>bV (p k))] [])).sem = some ((.ref 0),[.row 3 1 n (λk=>iV (g k))]):=Aa (bbK 12 15) ((λc0 c1=>[p0 (Df (onP 0 p0 (D7 n p s n g) L)) (Fm n p),c0,c0,c0,c1,c1,c1,c1,c1,c1,c1,false]) (ilt 0 (ofNat n)) (ilt 0 s)) (by kernel_rfl) (by simp only [hp0] <;> simp only [h0,h1] <;> rfl)
theorem AdO (h0:ilt 0 (ofNat n) = true) (h1:ilt 0 s = true) (h2:Af (ile 0 (wr .i64 (Au (ofNat n) 1))) (ilt (wr .i64 (Au (ofNat n) 1)) (ofNat n)) = true) (h3:p (toN (wr .i64 (Au (ofNat n) 1))) = true) (hp0:p0 (Df (onP 0 p0 (D7 n p s n g) L)) (Fm n p) = true):(A2 (An tab ⟨Aq tb0,onP 0 p0 (D7 n p s n g) L,Gl⟩ Try.f101 [.sl 1 n (λk=>bV (p k))] [])).sem = some ((.ref 0),[.row 3 1 n (λk=>iV (g k))]):=Aa (bbK 13 4095) ((λc0 c1=>[p0 (Df (onP 0 p0 (D7 n p s n g) L)) (Fm n p),c0,c0,c0,c1,c1,c1,c1,Af (ile 0 (wr .i64 (Au (ofNat n) 1))) (ilt (wr .i64 (Au (ofNat n) 1)) (ofNat n)),c1,c1,c1,Ah (p (toN (wr .i64 (Au (ofNat n) 1))))]) (ilt 0 (ofNat n)) (ilt 0 s)) (by kernel_rfl) (by simp only [hp0] <;> simp only [h2] <;> simp only [*] <;> rfl)
end
theorem AdN (L:LT) (p0:PT) (p2:PT) (n:Nat) (p:Nat->Bool) (s:Int) (g:Nat->Int) (d:Int) (u:Nat->Int) (h0:ilt 0 (ofNat n) = true) (h1:ilt 0 s = true) (h2:Af (ile 0 (wr .i64 (Au (ofNat n) 1))) (ilt (wr .i64 (Au (ofNat n) 1)) (ofNat n)) = true) (h3:p (toN (wr .i64 (Au (ofNat n) 1))) = false) (hp0:p0 (Df (onP 0 p0 (D7 n p s n g) (onP 2 p2 (Hi n p d u) L))) (Fm n p) = true) (hp2:p2 (FD (onP 0 p0 (D7 n p s n g) (onP 2 p2 (Hi n p d u) L))) (IX n p (wr .i64 (Au (ofNat n) 1)) g (VL n p s g)) = true):(A2 (An tab ⟨Aq tb0,onP 0 p0 (D7 n p s n g) (onP 2 p2 (Hi n p d u) L),Gl⟩ Try.f101 [.sl 1 n (λk=>bV (p k))] [])).sem = some ((.ref 0),[.row 3 1 n (λk=>iV (u k))]):=Aa (bbK 14 16383) ((λc0 c1=>[p0 (Df (onP 0 p0 (D7 n p s n g) (onP 2 p2 (Hi n p d u) L))) (Fm n p),c0,c0,c0,c1,c1,c1,c1,Af (ile 0 (wr .i64 (Au (ofNat n) 1))) (ilt (wr .i64 (Au (ofNat n) 1)) (ofNat n)),c1,c1,c1,Ah (p (toN (wr .i64 (Au (ofNat n) 1)))),p2 (FD (onP 0 p0 (D7 n p s n g) (onP 2 p2 (Hi n p d u) L))) (IX n p (wr .i64 (Au (ofNat n) 1)) g (VL n p s g))]) (ilt 0 (ofNat n)) (ilt 0 s)) (by kernel_rfl) (by simp only [hp0,hp2] <;> simp only [h2] <;> simp only [*] <;> rfl)
theorem Sg (p:Nat->Bool) (i:Nat):AB i (λk=>iV (CK p i k)) (iV (ofNat (Ak p i))) = λk=>iV (CK p (i+1) k):=by
 funext k
 rw [BF,show Nat.beq k i = decide (k = i) by rw [Bool.eq_iff_iff]; simp]
 unfold CK
 by_cases h:k = i
 ·subst h; simp
 ·by_cases h2:k < i
  ·have:k < i+1:=by omega
   simp [h,h2,this]
  ·have:¬ k < i+1:=by omega
   simp [h,h2,this]
theorem Bk {p:Nat->Bool} {i:Nat} (h:p i = true):Ak p (i+1) = Ak p i+1:=by rw [Ak,h]
theorem B0 {p:Nat->Bool} {i:Nat} (h:p i = false):Ak p (i+1) = Ak p i:=by rw [Ak,h]
theorem Ud (L:LT) (n:Nat) (p:Nat->Bool) (h8:n * 8 <= 140737488355328):∀ (e i:Nat) (j:Nat->V) (q:Nat),n = i+e->e < q ->
  (A8 (Df L) (P9 n p) q (RO n p (ofNat (Ak p i)) i (CK p i) j)).sem = some (D7 n p (ofNat (Ak p n)) n (CK p n))
 | 0,i,j,q+1,h,_=>by
  have:n = i:=by omega
  subst this
  exact Ad (AfL L n p _ _ _ j (AF (Nat.le_refl _)))
 | e+1,i,j,q+1,h,h2=>by
  have hc:=Bd p i
  have hl:i < n:=by omega
  have ha:Bh i 1 8 = true:=Cc (by omega)
  cases hp:p i with
  | true =>
   rw [Ad (AfJ L n p (ofNat (Ak p i)) i (CK p i) j (ofNat_lt hl) ha (Ap hl) hp),Aw,Ao hl (by omega),Ao (show Ak p i < n by omega) (by omega),<- Bk hp,Sg p i]
   exact Ud L n p h8 e (i+1) (λ_=>.und) q (by omega) (by omega)
  | false =>
   rw [Ad (AfK L n p (ofNat (Ak p i)) i (CK p i) j (ofNat_lt hl) ha (Ap hl) hp),Aw,Ao hl (by omega),Sg p i,<- B0 hp]
   exact Ud L n p h8 e (i+1) (λ_=>.und) q (by omega) (by omega)
theorem Vp (L:LT) (n:Nat) (p:Nat->Bool) (hn:n <= 4611686018427387904) (hs:0 < Ak p n):∀ (D:Nat) (j:Nat->V) (q:Nat),D <= n->D < q->(∀ k,D <= k->k < n->Ak p k = Ak p n) ->
  (A8 (FD L) (K6 n p) q (IX n p (dn D) (CK p D) j)).sem = some (Hi n p 0 (Av p n))
 | 0,j,q+1,h,_,hb=>by
  rw [<- H6 p n 0 h (λk hk=>absurd hk (Nat.not_lt_zero _)) hb]
  exact Ad (Afy L n p (dn 0) (CK p 0) j rfl)
 | D+1,j,q+1,h,h2,hb=>by
  have hD:D < n:=by omega
  have hk:nlt D n = true:=by simpa [nlt] using hD
  cases hp:p D with
  | false =>
   have he:Ak p D = Ak p n:=by
    rw [<- B0 hp]
    by_cases h5:D+1 = n
    ·rw [h5]
    ·exact hb (D+1) (Nat.le_refl _) (by omega)
   rw [show dn (D+1) = ofNat D from rfl,Ad (Afw L n p (ofNat D) (CK p (D+1)) j (AK D) (Ap hD) hp hk),Aw,PL (show D <= n by omega) hn,Cn,show toN (ofNat D) = D from rfl,La]
   exact Vp L n p hn hs D (λ_=>.und) q (by omega) (by omega) λk h3 h4=>by
    by_cases h5:k = D
    ·subst h5; exact he
    ·exact hb k (by omega) h4
  | true =>
   have h6:Ak p D < Ak p n:=by
    have:=AX p (show D+1 <= n by omega)
    rw [Bk hp] at this
    omega
   rw [<- H6 p n (D+1) h (λk hk=>by have:=AX p (show k <= D by omega); omega) hb]
   rw [show dn (D+1) = ofNat D from rfl]
   exact Ad (Afx L n p (ofNat D) (CK p (D+1)) j (AK D) (Ap hD) hp)
def R8:List (Nat × List (Nat × V)):=[(0,[(1,iV 0)])]
def NJ (n:Nat) (p:Nat->Bool):List (Nat × Lp):=[(0,P9 n p),(2,K6 n p)]
def Lm:List V->T (V × List Blk)
 | [v]=>apB v λn p=>.br (CV n) (.leaf (.ref 0,[.row 3 1 n λk=>iV (Av p n k)])) .fail
 | _=>.fail
theorem Ach (n:Nat) (p:Nat->Bool):CW (Fm n p) [(1,iV 0)] = RO n p 0 0 (λ_=>0) (λi=>nth (Fm n p).t i):=by kernel_rfl
theorem AaA (n:Nat) (p:Nat->Bool) (h8:CV n = true) :
  (A2 (An tab (cxZ Gl tb0 R8 (NJ n p)) Try.f101 [UK n p] [])).sem = some (.ref 0,[.row 3 1 n λk=>iV (Av p n k)]):=by
 have h8':n * 8 <= 140737488355328:=of_decide_eq_true h8
 have hn:n <= 4611686018427387904:=by omega
 have hL:=DW R8 (NJ n p)
 have h0:∀ L,(CC R8 (NJ n p) 0 (Df L) (Fm n p)).sem = some (D7 n p (ofNat (Ak p n)) n (CK p n)):=λL=>by
  show (A8 (Df L) (P9 n p) (n+1) (CW (Fm n p) [(1,iV 0)])).sem = _
  rw [Ach,<- Ue p]
  exact Ud L n p h8' n 0 _ (n+1) (by omega) (by omega)
 cases n with
 | zero =>
  rw [<- Q1 p 0 rfl]
  exact A6 (Az hL hL) _ (AdQ _ _ 0 p _ _ rfl (Am (h0 _)))
 | succ m =>
  have c0:ilt 0 (ofNat (m+1)) = true:=by rw [show (0:Int) = ofNat 0 from rfl,CN]; simp
  have e1:wr .i64 (Au (ofNat (m+1)) 1) = ofNat m:=PL (Nat.le_refl _) hn
  have e2:toN (ofNat m) = m:=rfl
  cases hs:ilt 0 (ofNat (Ak p (m+1))) with
  | false =>
   have hz:Ak p (m+1) = 0:=by simpa [ilt] using hs
   have hw:=A6 (Az hL hL) _ (AdP _ _ (m+1) p _ _ c0 hs (Am (h0 _)))
   rw [<- Q1 p (m+1) hz]
   exact hw
  | true =>
   have hz:0 < Ak p (m+1):=by simpa [ilt] using hs
   have hb:Af (ile 0 (wr .i64 (Au (ofNat (m+1)) 1))) (ilt (wr .i64 (Au (ofNat (m+1)) 1)) (ofNat (m+1))) = true:=by rw [e1]; exact Ap (Nat.lt_succ_self m)
   cases hp:p m with
   | true =>
    have hw:=A6 (Az hL hL) _ (AdO _ _ (m+1) p _ _ c0 hs hb (by rw [e1,e2]; exact hp) (Am (h0 _)))
    rw [<- H6 p (m+1) (m+1) (Nat.le_refl _) (λk hk=>by have:=AX p (show k <= m by omega); rw [Bk hp]; omega) (λk h1 h2=>by omega)]
    exact hw
   | false =>
    have h2:=λL j=>Vp L (m+1) p hn hz (m+1) j (m+2) (Nat.le_refl _) (by omega) (λk h1 h2=>by omega)
    rw [show dn (m+1) = ofNat m from rfl,<- e1] at h2
    exact A6 (Az (Az hL hL) hL) _ (AdN _ _ _ (m+1) p _ (CK p (m+1)) 0 (Av p (m+1)) c0 hs hb (by rw [e1,e2]; exact hp) (Am (h0 _)) (Am (h2 _ _)))
theorem Akl:AA Try.prog Gl 101 Lm:=by
 refine A5 AQ AR Try.func101 (by kernel_rfl) (by kernel_rfl) λvs v h' h=>?_
 unfold Lm at h
 split at h
 ·rename_i u
  obtain ⟨n,p,ha,h1⟩:=Aam h
  obtain ⟨h8,hq⟩:=Ag h1
  have:=Ac hq
  simp only [Prod.mk.injEq] at this
  obtain ⟨rfl,rfl⟩:=this
  have hA:BL [u] [UK n p]:=λS w cs hv=>by
   obtain ⟨c,l,rfl,q1,q2⟩:=hv
   exact ⟨c,l,rfl,ha S w c q1,q2⟩
  have hx:=JX Ee R8 (NJ n p)
  exact ⟨_,cxZ Gl tb0 R8 (NJ n p),_,hA,rfl,hx.1,hx.2,AaA n p h8,AE.refl _⟩
 ·cases h
theorem Cg {n:Nat}:Bm [.row 3 1 n (λ_=>iV 0)] = true:=by
 simp [Bm,LP,iV]
noncomputable def TF:List (Nat × (List V->T (V × List Blk))):=(22,BR λe=>bV (As e)) :: (23,BR λe=>bV (Ar e)) :: (101,Lm) :: []
theorem UX:AC Try.prog Gl TF:=.cons p60 <| .cons p61 <| .cons Akl .nil
def J6 (p:Nat->Bool) (i k:Nat):Bool:=decide (k < i) && p k
theorem Y7 (p:Nat->Bool):J6 p 0 = λ_=>false:=by
 funext k
 simp [J6]
theorem Pu (p:Nat->Bool) (i:Nat):AB i (λk=>bV (J6 p i k)) (bV (p i)) = λk=>bV (J6 p (i+1) k):=by
 funext k
 rw [BF,show Nat.beq k i = decide (k = i) by rw [Bool.eq_iff_iff]; simp]
 unfold J6
 by_cases h:k = i
 ·subst h; simp
 ·by_cases h2:k < i
  ·have:k < i+1:=by omega
   simp [h,h2,this]
  ·have:¬ k < i+1:=by omega
   simp [h,h2,this]
theorem DN {p q:Nat->Bool}:∀ k,(∀ i,i < k->q i = p i)->Ak q k = Ak p k
 | 0,_=>rfl
 | k+1,h=>by
  rw [Ak,Ak,h k (Nat.lt_succ_self k),DN k λi hi=>h i (by omega)]
theorem N6 (p:Nat->Bool) (n:Nat):Av (J6 p n) n = Av p n:=by
 have hq:∀ i,i < n->J6 p n i = p i:=λi hi=>by simp [J6,hi]
 funext k
 unfold Av
 by_cases h:k < n
 ·rw [DN k λi hi=>hq i (by omega),DN n hq]
 ·simp [h]
theorem HJ {n:Nat} (h:AN n = true):n * 8 <= 140737488355328:=of_decide_eq_true (Fl h)
def Sx (n:Nat) (f:Nat->E6):Lp:=⟨(bmK 21 0 [0,3,4]),2,bmK 21 0 [3],2,n+1⟩
def AaR (n:Nat) (f:Nat->E6) (i:Nat) (h:Nat->Bool) (j:Nat->V):St:=⟨(jsV 21 0 j [(0,.sl 6 n (λi=>eV (f i))),(3,.ref 1),(4,nV i)]),[.row 3 1 0 (λ_=>.und),.row 4 1 i (λk=>bV (h k))]⟩
def Tg (n:Nat) (f:Nat->E6) (i:Nat) (h:Nat->Bool):Ex × St:=(.ex 0,⟨(jsV 21 0 (λ_=>.und) [(3,.ref 1)]),[.row 3 1 0 (λ_=>.und),.row 4 1 i (λk=>bV (h k))]⟩)
noncomputable def JZ (L:LT):St->T (Ex × St):=λst=>AG tab ⟨Aq TF,L,Gl⟩ (A1 Try.f66 0) 0 st
section
variable (L:LT) (n:Nat) (f:Nat->E6) (i:Nat) (h:Nat->Bool)  (j:Nat->V)
include L n f i h j
theorem Ai1 (h0:ilt (ofNat i) (ofNat n) = false):Aj (JZ L) (Sx n f) (AaR n f i h j) = some ((.ex 0),⟨(jsV 21 0 (λ_=>.und) [(3,(.ref 1))]),[r3Z,.row 4 1 i (λk=>bV (h k))]⟩):=Aa [false] [ilt (ofNat i) (ofNat n)] (by kernel_rfl) (by simp only [h0] <;> rfl)
theorem Ai0 (h0:ilt (ofNat i) (ofNat n) = true) (h1:Af (ile 0 (ofNat i)) (ilt (ofNat i) (ofNat n)) = true) (h2:Bh i 1 1 = true):Aj (JZ L) (Sx n f) (AaR n f i h j) = some (.nm,⟨(jsV 21 0 (λ_=>.und) [(0,(.sl 6 n (λi=>eV (f i)))),(3,(.ref 1)),(4,(iV (wr .i64 (Ae (ofNat i) 1))))]),[r3Z,.row 4 1 (Bp i 1) (AB i (λk=>bV (h k)) (bV (As (f i))))]⟩):=Aa [true,true,true] [ilt (ofNat i) (ofNat n),Af (ile 0 (ofNat i)) (ilt (ofNat i) (ofNat n)),Bh i 1 1] (by kernel_rfl) (by simp only [h1] <;> simp only [h0,h2] <;> rfl)
end
def PJ (n:Nat) (f:Nat->E6) :St:=⟨(jsV 21 0 (λ_=>A9) [(0,(.sl 6 n (λi=>eV (f i)))),(2,(.ref 0)),(3,(.ref 1)),(4,(iV 0))]),[r3Z,.row 4 1 0 (λ_=>.und)]⟩
theorem Aj5 (L:LT) (p0:PT) (n:Nat) (f:Nat->E6) (q:Nat->Bool) (h0:CV n = true) (h10:Bm [.row 3 1 n (λ_=>iV 0)] = true) (hp0:p0 (JZ (onP 0 p0 (Tg n f n q) L)) (PJ n f) = true):(A2 (An tab ⟨Aq TF,onP 0 p0 (Tg n f n q) L,Gl⟩ Try.f66 [A3 n f] [])).sem = some ((.ref 0),[.row 3 1 n (λk=>iV (Av q n k))]):=Aa [true,true,true,true] [p0 (JZ (onP 0 p0 (Tg n f n q) L)) (PJ n f),Ay n (λ_=>true),CV n,Bm [.row 3 1 n (λ_=>iV 0)]] (by kernel_rfl) (by simp only [hp0] <;> simp only [h0,h10,Ax,Cg] <;> rfl)
theorem Ac2 (L:LT) (n:Nat) (f:Nat->E6) (h8:n * 8 <= 140737488355328):∀ (e i:Nat) (j:Nat->V) (q:Nat),n = i+e->e < q ->
  (A8 (JZ L) (Sx n f) q (AaR n f i (J6 (λk=>As (f k)) i) j)).sem = some (Tg n f n (J6 (λk=>As (f k)) n))
 | 0,i,j,q+1,h,_=>by
  have:n = i:=by omega
  subst this
  exact Ad (Ai1 L n f _ _ j (AF (Nat.le_refl _)))
 | e+1,i,j,q+1,h,h2=>by
  have hl:i < n:=by omega
  have ha:Bh i 1 1 = true:=Cc (by omega)
  rw [Ad (Ai0 L n f i (J6 (λk=>As (f k)) i) j (ofNat_lt hl) (Ap hl) ha),Aw,Ao hl (by omega)]
  have:=Pu (λk=>As (f k)) i
  rw [this]
  exact Ac2 L n f h8 e (i+1) (λ_=>.und) q (by omega) (by omega)
def Aav:List (Nat × List (Nat × V)):=[(0,[(1,bV false)])]
theorem Agu (n:Nat) (f:Nat->E6):CW (PJ n f) [(1,bV false)] = AaR n f 0 (λ_=>false) (λi=>nth (PJ n f).t i):=by kernel_rfl
def Q3:List V->T (V × List Blk):=Hp λn f=>.br (AN n) (.leaf (.ref 0,[.row 3 1 n λk=>iV (Av (λk=>As (f k)) n k)])) .fail
theorem p94:AA Try.prog Gl 66 Q3:=by
 refine A5 AQ AR Try.func66 (by kernel_rfl) (by kernel_rfl) λvs v h' h=>?_
 obtain ⟨n,f,ha,h1⟩:=CY h
 obtain ⟨hn,hq⟩:=Ag h1
 have:=Ac hq
 simp only [Prod.mk.injEq] at this
 obtain ⟨rfl,rfl⟩:=this
 have hx:=JX UX Aav [(0,Sx n f)]
 have hL:=DW Aav [(0,Sx n f)]
 have h0:∀ L,(CC Aav [(0,Sx n f)] 0 (JZ L) (PJ n f)).sem = some (Tg n f n (J6 (λk=>As (f k)) n)):=λL=>by
  show (A8 (JZ L) (Sx n f) (n+1) (CW (PJ n f) [(1,bV false)])).sem = _
  rw [Agu,<- Y7 (λk=>As (f k))]
  exact Ac2 L n f (HJ hn) n 0 _ (n+1) (by omega) (by omega)
 have hw:=A6 (Az hL hL) _ (Aj5 _ _ n f _ (Fl hn) Cg (Am (h0 _)))
 rw [N6 (λk=>As (f k)) n] at hw
 exact ⟨_,cxZ Gl TF Aav [(0,Sx n f)],_,ha,rfl,hx.1,hx.2,hw,AE.refl _⟩
def lp95 (n:Nat) (f:Nat->E6):Lp:=⟨(bmK 21 0 [0,3,4]),2,bmK 21 0 [3],2,n+1⟩
def st95 (n:Nat) (f:Nat->E6) (i:Nat) (h:Nat->Bool) (j:Nat->V):St:=⟨(jsV 21 0 j [(0,.sl 6 n (λi=>eV (f i))),(3,.ref 1),(4,nV i)]),[.row 3 1 0 (λ_=>.und),.row 4 1 i (λk=>bV (h k))]⟩
def Tf (n:Nat) (f:Nat->E6) (i:Nat) (h:Nat->Bool):Ex × St:=(.ex 0,⟨(jsV 21 0 (λ_=>.und) [(3,.ref 1)]),[.row 3 1 0 (λ_=>.und),.row 4 1 i (λk=>bV (h k))]⟩)
noncomputable def body95 (L:LT):St->T (Ex × St):=λst=>AG tab ⟨Aq TF,L,Gl⟩ (A1 Try.f67 0) 0 st
section
variable (L:LT) (n:Nat) (f:Nat->E6) (i:Nat) (h:Nat->Bool)  (j:Nat->V)
include L n f i h j
theorem Aiz (h0:ilt (ofNat i) (ofNat n) = false):Aj (body95 L) (lp95 n f) (st95 n f i h j) = some ((.ex 0),⟨(jsV 21 0 (λ_=>.und) [(3,(.ref 1))]),[r3Z,.row 4 1 i (λk=>bV (h k))]⟩):=Aa [false] [ilt (ofNat i) (ofNat n)] (by kernel_rfl) (by simp only [h0] <;> rfl)
theorem Aiy (h0:ilt (ofNat i) (ofNat n) = true) (h1:Af (ile 0 (ofNat i)) (ilt (ofNat i) (ofNat n)) = true) (h2:Bh i 1 1 = true):Aj (body95 L) (lp95 n f) (st95 n f i h j) = some (.nm,⟨(jsV 21 0 (λ_=>.und) [(0,(.sl 6 n (λi=>eV (f i)))),(3,(.ref 1)),(4,(iV (wr .i64 (Ae (ofNat i) 1))))]),[r3Z,.row 4 1 (Bp i 1) (AB i (λk=>bV (h k)) (bV (Ar (f i))))]⟩):=Aa [true,true,true] [ilt (ofNat i) (ofNat n),Af (ile 0 (ofNat i)) (ilt (ofNat i) (ofNat n)),Bh i 1 1] (by kernel_rfl) (by simp only [h1] <;> simp only [h0,h2] <;> rfl)
end
def PI (n:Nat) (f:Nat->E6) :St:=⟨(jsV 21 0 (λ_=>A9) [(0,(.sl 6 n (λi=>eV (f i)))),(2,(.ref 0)),(3,(.ref 1)),(4,(iV 0))]),[r3Z,.row 4 1 0 (λ_=>.und)]⟩
theorem Aj4 (L:LT) (p0:PT) (n:Nat) (f:Nat->E6) (q:Nat->Bool) (h0:CV n = true) (h10:Bm [.row 3 1 n (λ_=>iV 0)] = true) (hp0:p0 (body95 (onP 0 p0 (Tf n f n q) L)) (PI n f) = true):(A2 (An tab ⟨Aq TF,onP 0 p0 (Tf n f n q) L,Gl⟩ Try.f67 [A3 n f] [])).sem = some ((.ref 0),[.row 3 1 n (λk=>iV (Av q n k))]):=Aa [true,true,true,true] [p0 (body95 (onP 0 p0 (Tf n f n q) L)) (PI n f),Ay n (λ_=>true),CV n,Bm [.row 3 1 n (λ_=>iV 0)]] (by kernel_rfl) (by simp only [hp0] <;> simp only [h0,h10,Ax,Cg] <;> rfl)
theorem run95 (L:LT) (n:Nat) (f:Nat->E6) (h8:n * 8 <= 140737488355328):∀ (e i:Nat) (j:Nat->V) (q:Nat),n = i+e->e < q ->
  (A8 (body95 L) (lp95 n f) q (st95 n f i (J6 (λk=>Ar (f k)) i) j)).sem = some (Tf n f n (J6 (λk=>Ar (f k)) n))
 | 0,i,j,q+1,h,_=>by
  have:n = i:=by omega
  subst this
  exact Ad (Aiz L n f _ _ j (AF (Nat.le_refl _)))
 | e+1,i,j,q+1,h,h2=>by
  have hl:i < n:=by omega
  have ha:Bh i 1 1 = true:=Cc (by omega)
  rw [Ad (Aiy L n f i (J6 (λk=>Ar (f k)) i) j (ofNat_lt hl) (Ap hl) ha),Aw,Ao hl (by omega)]
  have:=Pu (λk=>Ar (f k)) i
  rw [this]
  exact run95 L n f h8 e (i+1) (λ_=>.und) q (by omega) (by omega)
def Aau:List (Nat × List (Nat × V)):=[(0,[(1,bV false)])]
theorem Agt (n:Nat) (f:Nat->E6):CW (PI n f) [(1,bV false)] = st95 n f 0 (λ_=>false) (λi=>nth (PI n f).t i):=by kernel_rfl
def Q2:List V->T (V × List Blk):=Hp λn f=>.br (AN n) (.leaf (.ref 0,[.row 3 1 n λk=>iV (Av (λk=>Ar (f k)) n k)])) .fail
theorem p95:AA Try.prog Gl 67 Q2:=by
 refine A5 AQ AR Try.func67 (by kernel_rfl) (by kernel_rfl) λvs v h' h=>?_
 obtain ⟨n,f,ha,h1⟩:=CY h
 obtain ⟨hn,hq⟩:=Ag h1
 have:=Ac hq
 simp only [Prod.mk.injEq] at this
 obtain ⟨rfl,rfl⟩:=this
 have hx:=JX UX Aau [(0,lp95 n f)]
 have hL:=DW Aau [(0,lp95 n f)]
 have h0:∀ L,(CC Aau [(0,lp95 n f)] 0 (body95 L) (PI n f)).sem = some (Tf n f n (J6 (λk=>Ar (f k)) n)):=λL=>by
  show (A8 (body95 L) (lp95 n f) (n+1) (CW (PI n f) [(1,bV false)])).sem = _
  rw [Agt,<- Y7 (λk=>Ar (f k))]
  exact run95 L n f (HJ hn) n 0 _ (n+1) (by omega) (by omega)
 have hw:=A6 (Az hL hL) _ (Aj4 _ _ n f _ (Fl hn) Cg (Am (h0 _)))
 rw [N6 (λk=>Ar (f k)) n] at hw
 exact ⟨_,cxZ Gl TF Aau [(0,lp95 n f)],_,ha,rfl,hx.1,hx.2,hw,AE.refl _⟩
noncomputable def tb53:List (Nat × (List V->T (V × List Blk))):=(94,AiS) :: (66,Q3) :: (67,Q2) :: []
theorem tb53_ok:AC Try.prog Gl tb53:=.cons p98 <| .cons p94 <| .cons p95 .nil
def Kt (g:Nat->(Nat->E6)->Nat->Int):List V->T (V × List Blk):=Hp λn f=>.br (AN n) (match BN n f with
 | true=>.leaf (.tup [.ref 0,iV 0],[.row 3 1 n λk=>iV (g n f k)])
 | false=>.leaf (.tup [.ref 0,iV 30],[.row 3 1 0 λ_=>.und])) .fail
section
variable (L:LT) (n:Nat) (f:Nat->E6)
include L n f
theorem AjG (h0:Ai n = true) (h1:BN n f = true) (h2:AN n = true):(A2 (An tab ⟨Aq tb53,L,Gl⟩ Try.f57 [A3 n f] [])).sem = some ((.tup [.ref 0,iV 0]),[.row 3 1 n (λk=>iV (Av (λk=>As (f k)) n k))]):=Aa [true,true,false,true,true] [Ay n (λ_=>true),Ai n,Ah (BN n f),Ay n (λ_=>true),AN n] (by kernel_rfl) (by simp only [*,Ax] <;> rfl)
theorem AjH (h0:Ai n = true) (h1:BN n f = false):(A2 (An tab ⟨Aq tb53,L,Gl⟩ Try.f57 [A3 n f] [])).sem = some ((.tup [.ref 0,iV 30]),[r3Z]):=Aa [true,true,true] [Ay n (λ_=>true),Ai n,Ah (BN n f)] (by kernel_rfl) (by simp only [h0,h1,Ax] <;> rfl)
theorem AjE (h0:Ai n = true) (h1:BN n f = true) (h2:AN n = true):(A2 (An tab ⟨Aq tb53,L,Gl⟩ Try.f58 [A3 n f] [])).sem = some ((.tup [.ref 0,iV 0]),[.row 3 1 n (λk=>iV (Av (λk=>Ar (f k)) n k))]):=Aa [true,true,false,true,true] [Ay n (λ_=>true),Ai n,Ah (BN n f),Ay n (λ_=>true),AN n] (by kernel_rfl) (by simp only [*,Ax] <;> rfl)
theorem AjF (h0:Ai n = true) (h1:BN n f = false):(A2 (An tab ⟨Aq tb53,L,Gl⟩ Try.f58 [A3 n f] [])).sem = some ((.tup [.ref 0,iV 30]),[r3Z]):=Aa [true,true,true] [Ay n (λ_=>true),Ai n,Ah (BN n f)] (by kernel_rfl) (by simp only [h0,h1,Ax] <;> rfl)
end
theorem p53:AA Try.prog Gl 57 (Kt λn f=>Av (λk=>As (f k)) n):=by
 refine A5 AQ AR Try.func57 (by kernel_rfl) (by kernel_rfl) λvs v h' h=>?_
 obtain ⟨n,f,ha,h1⟩:=CY h
 obtain ⟨hn,hq⟩:=Ag h1
 have hx:=AS tb53_ok []
 have hs:Ai n = true:=Z3 (Fl hn)
 cases hm:BN n f with
 | true =>
  rw [hm] at hq
  have:=Ac hq
  simp only [Prod.mk.injEq] at this
  obtain ⟨rfl,rfl⟩:=this
  exact ⟨_,AT Gl tb53 [],_,ha,rfl,hx.1,hx.2,AjG _ n f hs hm hn,AE.refl _⟩
 | false =>
  rw [hm] at hq
  have:=Ac hq
  simp only [Prod.mk.injEq] at this
  obtain ⟨rfl,rfl⟩:=this
  exact ⟨_,AT Gl tb53 [],_,ha,rfl,hx.1,hx.2,AjH _ n f hs hm,AE.refl _⟩
theorem p54:AA Try.prog Gl 58 (Kt λn f=>Av (λk=>Ar (f k)) n):=by
 refine A5 AQ AR Try.func58 (by kernel_rfl) (by kernel_rfl) λvs v h' h=>?_
 obtain ⟨n,f,ha,h1⟩:=CY h
 obtain ⟨hn,hq⟩:=Ag h1
 have hx:=AS tb53_ok []
 have hs:Ai n = true:=Z3 (Fl hn)
 cases hm:BN n f with
 | true =>
  rw [hm] at hq
  have:=Ac hq
  simp only [Prod.mk.injEq] at this
  obtain ⟨rfl,rfl⟩:=this
  exact ⟨_,AT Gl tb53 [],_,ha,rfl,hx.1,hx.2,AjE _ n f hs hm hn,AE.refl _⟩
 | false =>
  rw [hm] at hq
  have:=Ac hq
  simp only [Prod.mk.injEq] at this
  obtain ⟨rfl,rfl⟩:=this
  exact ⟨_,AT Gl tb53 [],_,ha,rfl,hx.1,hx.2,AjF _ n f hs hm,AE.refl _⟩
end Go.Proofs.Ytjhnfomefcngfaa.Ed
