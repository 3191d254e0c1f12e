/-
  Layer 4: the parts of a cycle. No conditions.
-/
import Derived.Test.YtjhnfomefcngfaaCyB
import Derived.Test.YtjhnfomefcngfaaSyS
namespace Go.Proofs.Ytjhnfomefcngfaa.Ed
open Go.Sy
open Int (ofNat)
def CG (p:Nat->Bool) (i k:Nat):Int:=bif decide (k < i) then ofNat (Aj p k) else 0
def Av (p:Nat->Bool) (n k:Nat):Int:=bif decide (k < n) then (bif decide (Aj p k = Aj p n) then 0 else ofNat (Aj p k)) else 0
def MZ (h:Nat->Int) (i:Nat) (s:Int) (k:Nat):Int:=bif decide (k = i) then s else h k
theorem Cl (h:Nat->Int) (i:Nat) (s:Int):Bl (λk=>iV (h k)) i (iV s) = λk=>iV (MZ h i s k):=by
 funext k
 rw [F9,show Nat.beq k i = decide (k = i) by rw [Bool.eq_iff_iff]; simp]
 unfold MZ
 cases decide (k = i) <;> rfl
theorem Ke (p:Nat->Bool) (i:Nat):MZ (CG p i) i (ofNat (Aj p i)) = CG p (i+1):=by
 funext k
 unfold MZ CG
 by_cases h:k = i
 ·subst h; simp
 ·by_cases h2:k < i
  ·have:k < i+1:=by omega
   simp [h,h2,this]
  ·have:¬ k < i+1:=by omega
   simp [h,h2,this]
theorem KY (p:Nat->Bool) (i:Nat):MZ (CG p (i+1)) i 0 = CG p i:=by
 funext k
 unfold MZ CG
 by_cases h:k = i
 ·subst h; simp
 ·by_cases h2:k < i
  ·have:k < i+1:=by omega
   simp [h,h2,this]
  ·have:¬ k < i+1:=by omega
   simp [h,h2,this]
def dn:Nat->Int
 | 0=>-1
 | D+1=>ofNat D
theorem PP {D n:Nat} (h:D <= n) (hn:n <= 4611686018427387904):wr .i64 (A2 (ofNat D) 1) = dn D:=by
 cases D with
 | zero=>rfl
 | succ D =>
  unfold wr A2 IntKind.wrap dn
  simp [IntKind.bits,IntKind.signed]
  omega
theorem AZ (p:Nat->Bool):∀ {i k:Nat},i <= k->Aj p i <= Aj p k
 | i,0,h=>by
  have:i = 0:=by omega
  subst this
  exact Nat.le_refl _
 | i,k+1,h=>by
  by_cases h2:i = k+1
  ·subst h2; exact Nat.le_refl _
  ·have:=AZ p (show i <= k by omega)
   refine Nat.le_trans this ?_
   rw [show Aj p (k+1) = (match p k with | true=>Aj p k+1 | false=>Aj p k) from rfl]
   cases p k
   ·exact Nat.le_refl _
   ·exact Nat.le_succ _
theorem H5 (p:Nat->Bool) (n D:Nat) (h:D <= n) (h1:∀ k,k < D->Aj p k ≠ Aj p n) (h2:∀ k,D <= k->k < n->Aj p k = Aj p n):CG p D = Av p n:=by
 funext k
 unfold CG Av
 by_cases h3:k < D
 ·have h4:k < n:=by omega
  simp [h3,h4,h1 k h3]
 ·by_cases h4:k < n
  ·simp [h3,h4,h2 k (by omega) h4]
  ·simp [h3,h4]
def Mk (n:Nat) (f:Nat->E6):Lp:=⟨(bmK 51 0 [0,1,5,6,13,14,15]),2,bmK 51 0 [0,5,6],2,n+1⟩
def LW (n:Nat) (f:Nat->E6) (s:Int) (i:Nat) (h:Nat->Int) (j:Nat->V):St:=⟨(jsV 51 0 j [(0,.sl 6 n (λi=>eV (f i))),(1,.fn 83 []),(5,.ref 1),(6,iV s),(13,.sl 6 n (λi=>eV (f i))),(14,nV n),(15,nV i)]),[.row 3 1 0 (λ_=>.und),.row 3 1 n (λk=>iV (h k))]⟩
def HO (n:Nat) (f:Nat->E6) (s:Int) (i:Nat) (h:Nat->Int):Ex × St:=(.ex 0,⟨(jsV 51 0 (λ_=>.und) [(0,.sl 6 n (λi=>eV (f i))),(5,.ref 1),(6,iV s)]),[.row 3 1 0 (λ_=>.und),.row 3 1 n (λk=>iV (h k))]⟩)
noncomputable def G0 (L:LT):St->T (Ex × St):=λst=>AF tab ⟨Ap tbY,L,Gl⟩ (A1 Try.f87 0) 0 st
section
variable (L:LT) (n:Nat) (f:Nat->E6) (s:Int) (i:Nat) (h:Nat->Int)  (j:Nat->V)
include L n f s i h j
abbrev r3Z:Blk:=.row 3 1 0 λ_=>.und
theorem Af9 (h0:ilt (ofNat i) (ofNat n) = false):Ai (G0 L) (Mk n f) (LW n f s i h j) = some ((.ex 0),⟨(jsV 51 0 (λ_=>.und) [(0,(.sl 6 n (λi=>eV (f i)))),(5,(.ref 1)),(6,(iV s))]),[r3Z,.row 3 1 n (λk=>iV (h k))]⟩):=Aa [false] [ilt (ofNat i) (ofNat n)] (by kernel_rfl) (by simp only [h0] <;> rfl)
theorem Af7 (h0:ilt (ofNat i) (ofNat n) = true) (h1:Af (ile 0 (ofNat i)) (ilt (ofNat i) (ofNat n)) = true) (h2:nlt i n = true) (h3:As (f i) = true):Ai (G0 L) (Mk n f) (LW n f s i h j) = some (.nm,⟨(jsV 51 0 (λ_=>.und) [(0,(.sl 6 n (λi=>eV (f i)))),(1,(.fn 83 [])),(5,(.ref 1)),(6,(iV (wr .i64 (Ae s 1)))),(13,(.sl 6 n (λi=>eV (f i)))),(14,(nV n)),(15,(iV (wr .i64 (Ae (ofNat i) 1))))]),[r3Z,.row 3 1 n (Bl (λk=>iV (h k)) i (iV s))]⟩):=Aa [true,true,true,true,true] ((λc0=>[ilt (ofNat i) (ofNat n),c0,c0,nlt i n,As (f i)]) (Af (ile 0 (ofNat i)) (ilt (ofNat i) (ofNat n)))) (by kernel_rfl) (by simp only [h1] <;> simp only [*] <;> rfl)
theorem Af8 (h0:ilt (ofNat i) (ofNat n) = true) (h1:Af (ile 0 (ofNat i)) (ilt (ofNat i) (ofNat n)) = true) (h2:nlt i n = true) (h3:As (f i) = false):Ai (G0 L) (Mk n f) (LW n f s i h j) = some (.nm,⟨(jsV 51 0 (λ_=>.und) [(0,(.sl 6 n (λi=>eV (f i)))),(1,(.fn 83 [])),(5,(.ref 1)),(6,(iV s)),(13,(.sl 6 n (λi=>eV (f i)))),(14,(nV n)),(15,(iV (wr .i64 (Ae (ofNat i) 1))))]),[r3Z,.row 3 1 n (Bl (λk=>iV (h k)) i (iV s))]⟩):=Aa [true,true,true,true,false] ((λc0=>[ilt (ofNat i) (ofNat n),c0,c0,nlt i n,As (f i)]) (Af (ile 0 (ofNat i)) (ilt (ofNat i) (ofNat n)))) (by kernel_rfl) (by simp only [h1] <;> simp only [*] <;> rfl)
end
def VN (n:Nat) (f:Nat->E6) :Nat->V:=lkV AA [(4,(.ref 0)),(10,(.sl 6 n (λi=>eV (f i)))),(11,(nV n)),(12,(.ref 1))]
def Gn (n:Nat) (f:Nat->E6):Lp:=⟨(bmK 51 0 [5,6,9]),2,bmK 51 0 [5],2,n+1⟩
def IS (n:Nat) (f:Nat->E6) (s d:Int) (h:Nat->Int) (j:Nat->V):St:=⟨(jsV 51 0 j [(5,.ref 1),(6,iV s),(9,iV d)]),[.row 3 1 0 (λ_=>.und),.row 3 1 n (λk=>iV (h k))]⟩
def GZ (n:Nat) (f:Nat->E6) (s d:Int) (h:Nat->Int):Ex × St:=(.ex 2,⟨(jsV 51 0 (λ_=>.und) [(5,.ref 1)]),[.row 3 1 0 (λ_=>.und),.row 3 1 n (λk=>iV (h k))]⟩)
noncomputable def FC (L:LT):St->T (Ex × St):=λst=>AF tab ⟨Ap tbY,L,Gl⟩ (A1 Try.f87 2) 2 st
section
variable (L:LT) (n:Nat) (f:Nat->E6) (s d:Int) (h:Nat->Int)  (j:Nat->V)
include L n f s d h j
theorem Afl (h0:ile 0 d = false):Ai (FC L) (Gn n f) (IS n f s d h j) = some ((.ex 2),⟨(jsV 51 0 (λ_=>.und) [(5,(.ref 1))]),[r3Z,.row 3 1 n (λk=>iV (h k))]⟩):=Aa (bbK 8 0) [ile 0 d,ile 0 d,ile 0 d,ile 0 d,ile 0 d,ile 0 d,ile 0 d,false] (by kernel_rfl) (by simp only [h0] <;> rfl)
theorem Afk (h0:ile 0 d = true) (h1:Af (ile 0 d) (ilt d (ofNat n)) = true) (h2:nlt (toN d) n = true) (h3:ieq (h (toN d)) s = false):Ai (FC L) (Gn n f) (IS n f s d h j) = some ((.ex 2),⟨(jsV 51 0 (λ_=>.und) [(5,(.ref 1))]),[r3Z,.row 3 1 n (λk=>iV (h k))]⟩):=Aa (bbK 10 511) [ile 0 d,ile 0 d,ile 0 d,Af (ile 0 d) (ilt d (ofNat n)),ile 0 d,nlt (toN d) n,ile 0 d,ile 0 d,ile 0 d,ieq (h (toN d)) s] (by kernel_rfl) (by simp only [h1] <;> simp only [*] <;> rfl)
theorem Afj (h0:ile 0 d = true) (h1:Af (ile 0 d) (ilt d (ofNat n)) = true) (h2:nlt (toN d) n = true) (h3:ieq (h (toN d)) s = true):Ai (FC L) (Gn n f) (IS n f s d h j) = some (.nm,⟨(jsV 51 0 (λ_=>.und) [(5,(.ref 1)),(6,(iV s)),(9,(iV (wr .i64 (A2 d 1))))]),[r3Z,.row 3 1 n (Bl (λk=>iV (h k)) (toN d) (iV 0))]⟩):=Aa (bbK 12 4095) ((λc0 c1 c2=>[c0,c0,c0,c1,c0,c2,c0,c0,c0,ieq (h (toN d)) s,c1,c2]) (ile 0 d) (Af (ile 0 d) (ilt d (ofNat n))) (nlt (toN d) n)) (by kernel_rfl) (by simp only [h1] <;> simp only [*] <;> rfl)
end
def VP (n:Nat) (f:Nat->E6) (s:Int) (i:Nat) (h:Nat->Int):Nat->V:=lkV AA [(0,(.sl 6 n (λi=>eV (f i)))),(1,.und),(2,.und),(3,.und),(4,.und),(7,.und),(8,.und),(10,.und),(11,.und),(12,.und),(13,.und),(14,.und),(15,.und),(16,.und),(17,.und),(18,.und),(19,.und),(20,.und),(21,.und),(22,.und),(23,.und),(24,.und),(25,.und),(26,.und),(27,.und),(28,.und),(29,.und),(30,(iV s)),(31,(bV (ilt 0 s))),(32,(.sl 6 n (λi=>eV (f i)))),(33,(nV n)),(34,(iV (wr .i64 (A2 (ofNat n) 1)))),(35,.und),(36,.und),(37,.und),(38,.und),(39,.und),(40,.und),(41,.und),(42,.und),(43,.und),(44,.und),(45,.und),(46,.und),(47,.und),(48,.und),(49,.und),(50,.und)]
theorem Adj (L:LT) (p0:PT) (n:Nat) (f:Nat->E6) (s:Int) (i:Nat) (h:Nat->Int) (h0:BI 8 (ofNat n) (ofNat n) = true) (h1:ilt 0 s = false) (hp0:p0 (G0 (onP 0 p0 (HO n f s i h) L)) (LW n f 0 0 (λ_=>0) (VN n f )) = true):(Az (Ak tab ⟨Ap tbY,onP 0 p0 (HO n f s i h) L,Gl⟩ Try.f87 [A4 n f,.fn 83 []] [])).sem = some ((.ref 0),[.row 3 1 n (λk=>iV (h k))]):=Aa [true,true,false] [BI 8 (ofNat n) (ofNat n),p0 (G0 (onP 0 p0 (HO n f s i h) L)) (LW n f 0 0 (λ_=>0) (VN n f )),ilt 0 s] (by kernel_rfl) (by simp only [h0,h1,hp0] <;> rfl)
theorem Adk (L:LT) (p0:PT) (p2:PT) (n:Nat) (f:Nat->E6) (s d:Int) (i:Nat) (h g:Nat->Int) (h0:BI 8 (ofNat n) (ofNat n) = true) (h1:ilt 0 s = true) (hp0:p0 (G0 (onP 0 p0 (HO n f s i h) (onP 2 p2 (GZ n f s d g) L))) (LW n f 0 0 (λ_=>0) (VN n f )) = true) (hp2:p2 (FC (onP 0 p0 (HO n f s i h) (onP 2 p2 (GZ n f s d g) L))) (IS n f s (wr .i64 (A2 (ofNat n) 1)) h (VP n f s i h)) = true):(Az (Ak tab ⟨Ap tbY,onP 0 p0 (HO n f s i h) (onP 2 p2 (GZ n f s d g) L),Gl⟩ Try.f87 [A4 n f,.fn 83 []] [])).sem = some ((.ref 0),[.row 3 1 n (λk=>iV (g k))]):=Aa [true,true,true,true] [BI 8 (ofNat n) (ofNat n),p0 (G0 (onP 0 p0 (HO n f s i h) (onP 2 p2 (GZ n f s d g) L))) (LW n f 0 0 (λ_=>0) (VN n f )),ilt 0 s,p2 (FC (onP 0 p0 (HO n f s i h) (onP 2 p2 (GZ n f s d g) L))) (IS n f s (wr .i64 (A2 (ofNat n) 1)) h (VP n f s i h))] (by kernel_rfl) (by simp only [h0,h1,hp0,hp2] <;> rfl)
def Ml (n:Nat) (f:Nat->E6):Lp:=⟨(bmK 51 0 [0,1,5,6,13,14,15]),2,bmK 51 0 [0,5,6],2,n+1⟩
def LX (n:Nat) (f:Nat->E6) (s:Int) (i:Nat) (h:Nat->Int) (j:Nat->V):St:=⟨(jsV 51 0 j [(0,.sl 6 n (λi=>eV (f i))),(1,.fn 84 []),(5,.ref 1),(6,iV s),(13,.sl 6 n (λi=>eV (f i))),(14,nV n),(15,nV i)]),[.row 3 1 0 (λ_=>.und),.row 3 1 n (λk=>iV (h k))]⟩
def HP (n:Nat) (f:Nat->E6) (s:Int) (i:Nat) (h:Nat->Int):Ex × St:=(.ex 0,⟨(jsV 51 0 (λ_=>.und) [(0,.sl 6 n (λi=>eV (f i))),(5,.ref 1),(6,iV s)]),[.row 3 1 0 (λ_=>.und),.row 3 1 n (λk=>iV (h k))]⟩)
noncomputable def G1 (L:LT):St->T (Ex × St):=λst=>AF tab ⟨Ap tbY,L,Gl⟩ (A1 Try.f87 0) 0 st
section
variable (L:LT) (n:Nat) (f:Nat->E6) (s:Int) (i:Nat) (h:Nat->Int)  (j:Nat->V)
include L n f s i h j
theorem AfC (h0:ilt (ofNat i) (ofNat n) = false):Ai (G1 L) (Ml n f) (LX n f s i h j) = some ((.ex 0),⟨(jsV 51 0 (λ_=>.und) [(0,(.sl 6 n (λi=>eV (f i)))),(5,(.ref 1)),(6,(iV s))]),[r3Z,.row 3 1 n (λk=>iV (h k))]⟩):=Aa [false] [ilt (ofNat i) (ofNat n)] (by kernel_rfl) (by simp only [h0] <;> rfl)
theorem AfA (h0:ilt (ofNat i) (ofNat n) = true) (h1:Af (ile 0 (ofNat i)) (ilt (ofNat i) (ofNat n)) = true) (h2:nlt i n = true) (h3:Ar (f i) = true):Ai (G1 L) (Ml n f) (LX n f s i h j) = some (.nm,⟨(jsV 51 0 (λ_=>.und) [(0,(.sl 6 n (λi=>eV (f i)))),(1,(.fn 84 [])),(5,(.ref 1)),(6,(iV (wr .i64 (Ae s 1)))),(13,(.sl 6 n (λi=>eV (f i)))),(14,(nV n)),(15,(iV (wr .i64 (Ae (ofNat i) 1))))]),[r3Z,.row 3 1 n (Bl (λk=>iV (h k)) i (iV s))]⟩):=Aa [true,true,true,true,true] ((λc0=>[ilt (ofNat i) (ofNat n),c0,c0,nlt i n,Ar (f i)]) (Af (ile 0 (ofNat i)) (ilt (ofNat i) (ofNat n)))) (by kernel_rfl) (by simp only [h1] <;> simp only [*] <;> rfl)
theorem AfB (h0:ilt (ofNat i) (ofNat n) = true) (h1:Af (ile 0 (ofNat i)) (ilt (ofNat i) (ofNat n)) = true) (h2:nlt i n = true) (h3:Ar (f i) = false):Ai (G1 L) (Ml n f) (LX n f s i h j) = some (.nm,⟨(jsV 51 0 (λ_=>.und) [(0,(.sl 6 n (λi=>eV (f i)))),(1,(.fn 84 [])),(5,(.ref 1)),(6,(iV s)),(13,(.sl 6 n (λi=>eV (f i)))),(14,(nV n)),(15,(iV (wr .i64 (Ae (ofNat i) 1))))]),[r3Z,.row 3 1 n (Bl (λk=>iV (h k)) i (iV s))]⟩):=Aa [true,true,true,true,false] ((λc0=>[ilt (ofNat i) (ofNat n),c0,c0,nlt i n,Ar (f i)]) (Af (ile 0 (ofNat i)) (ilt (ofNat i) (ofNat n)))) (by kernel_rfl) (by simp only [h1] <;> simp only [*] <;> rfl)
end
def VO (n:Nat) (f:Nat->E6) :Nat->V:=lkV AA [(4,(.ref 0)),(10,(.sl 6 n (λi=>eV (f i)))),(11,(nV n)),(12,(.ref 1))]
def Gp (n:Nat) (f:Nat->E6):Lp:=⟨(bmK 51 0 [5,6,9]),2,bmK 51 0 [5],2,n+1⟩
def IT (n:Nat) (f:Nat->E6) (s d:Int) (h:Nat->Int) (j:Nat->V):St:=⟨(jsV 51 0 j [(5,.ref 1),(6,iV s),(9,iV d)]),[.row 3 1 0 (λ_=>.und),.row 3 1 n (λk=>iV (h k))]⟩
def Ha (n:Nat) (f:Nat->E6) (s d:Int) (h:Nat->Int):Ex × St:=(.ex 2,⟨(jsV 51 0 (λ_=>.und) [(5,.ref 1)]),[.row 3 1 0 (λ_=>.und),.row 3 1 n (λk=>iV (h k))]⟩)
noncomputable def FD (L:LT):St->T (Ex × St):=λst=>AF tab ⟨Ap tbY,L,Gl⟩ (A1 Try.f87 2) 2 st
section
variable (L:LT) (n:Nat) (f:Nat->E6) (s d:Int) (h:Nat->Int)  (j:Nat->V)
include L n f s d h j
theorem Afo (h0:ile 0 d = false):Ai (FD L) (Gp n f) (IT n f s d h j) = some ((.ex 2),⟨(jsV 51 0 (λ_=>.und) [(5,(.ref 1))]),[r3Z,.row 3 1 n (λk=>iV (h k))]⟩):=Aa (bbK 8 0) [ile 0 d,ile 0 d,ile 0 d,ile 0 d,ile 0 d,ile 0 d,ile 0 d,false] (by kernel_rfl) (by simp only [h0] <;> rfl)
theorem Afn (h0:ile 0 d = true) (h1:Af (ile 0 d) (ilt d (ofNat n)) = true) (h2:nlt (toN d) n = true) (h3:ieq (h (toN d)) s = false):Ai (FD L) (Gp n f) (IT n f s d h j) = some ((.ex 2),⟨(jsV 51 0 (λ_=>.und) [(5,(.ref 1))]),[r3Z,.row 3 1 n (λk=>iV (h k))]⟩):=Aa (bbK 10 511) [ile 0 d,ile 0 d,ile 0 d,Af (ile 0 d) (ilt d (ofNat n)),ile 0 d,nlt (toN d) n,ile 0 d,ile 0 d,ile 0 d,ieq (h (toN d)) s] (by kernel_rfl) (by simp only [h1] <;> simp only [*] <;> rfl)
theorem Afm (h0:ile 0 d = true) (h1:Af (ile 0 d) (ilt d (ofNat n)) = true) (h2:nlt (toN d) n = true) (h3:ieq (h (toN d)) s = true):Ai (FD L) (Gp n f) (IT n f s d h j) = some (.nm,⟨(jsV 51 0 (λ_=>.und) [(5,(.ref 1)),(6,(iV s)),(9,(iV (wr .i64 (A2 d 1))))]),[r3Z,.row 3 1 n (Bl (λk=>iV (h k)) (toN d) (iV 0))]⟩):=Aa (bbK 12 4095) ((λc0 c1 c2=>[c0,c0,c0,c1,c0,c2,c0,c0,c0,ieq (h (toN d)) s,c1,c2]) (ile 0 d) (Af (ile 0 d) (ilt d (ofNat n))) (nlt (toN d) n)) (by kernel_rfl) (by simp only [h1] <;> simp only [*] <;> rfl)
end
def VQ (n:Nat) (f:Nat->E6) (s:Int) (i:Nat) (h:Nat->Int):Nat->V:=lkV AA [(0,(.sl 6 n (λi=>eV (f i)))),(1,.und),(2,.und),(3,.und),(4,.und),(7,.und),(8,.und),(10,.und),(11,.und),(12,.und),(13,.und),(14,.und),(15,.und),(16,.und),(17,.und),(18,.und),(19,.und),(20,.und),(21,.und),(22,.und),(23,.und),(24,.und),(25,.und),(26,.und),(27,.und),(28,.und),(29,.und),(30,(iV s)),(31,(bV (ilt 0 s))),(32,(.sl 6 n (λi=>eV (f i)))),(33,(nV n)),(34,(iV (wr .i64 (A2 (ofNat n) 1)))),(35,.und),(36,.und),(37,.und),(38,.und),(39,.und),(40,.und),(41,.und),(42,.und),(43,.und),(44,.und),(45,.und),(46,.und),(47,.und),(48,.und),(49,.und),(50,.und)]
theorem Adl (L:LT) (p0:PT) (n:Nat) (f:Nat->E6) (s:Int) (i:Nat) (h:Nat->Int) (h0:BI 8 (ofNat n) (ofNat n) = true) (h1:ilt 0 s = false) (hp0:p0 (G1 (onP 0 p0 (HP n f s i h) L)) (LX n f 0 0 (λ_=>0) (VO n f )) = true):(Az (Ak tab ⟨Ap tbY,onP 0 p0 (HP n f s i h) L,Gl⟩ Try.f87 [A4 n f,.fn 84 []] [])).sem = some ((.ref 0),[.row 3 1 n (λk=>iV (h k))]):=Aa [true,true,false] [BI 8 (ofNat n) (ofNat n),p0 (G1 (onP 0 p0 (HP n f s i h) L)) (LX n f 0 0 (λ_=>0) (VO n f )),ilt 0 s] (by kernel_rfl) (by simp only [h0,h1,hp0] <;> rfl)
theorem Adm (L:LT) (p0:PT) (p2:PT) (n:Nat) (f:Nat->E6) (s d:Int) (i:Nat) (h g:Nat->Int) (h0:BI 8 (ofNat n) (ofNat n) = true) (h1:ilt 0 s = true) (hp0:p0 (G1 (onP 0 p0 (HP n f s i h) (onP 2 p2 (Ha n f s d g) L))) (LX n f 0 0 (λ_=>0) (VO n f )) = true) (hp2:p2 (FD (onP 0 p0 (HP n f s i h) (onP 2 p2 (Ha n f s d g) L))) (IT n f s (wr .i64 (A2 (ofNat n) 1)) h (VQ n f s i h)) = true):(Az (Ak tab ⟨Ap tbY,onP 0 p0 (HP n f s i h) (onP 2 p2 (Ha n f s d g) L),Gl⟩ Try.f87 [A4 n f,.fn 84 []] [])).sem = some ((.ref 0),[.row 3 1 n (λk=>iV (g k))]):=Aa [true,true,true,true] [BI 8 (ofNat n) (ofNat n),p0 (G1 (onP 0 p0 (HP n f s i h) (onP 2 p2 (Ha n f s d g) L))) (LX n f 0 0 (λ_=>0) (VO n f )),ilt 0 s,p2 (FD (onP 0 p0 (HP n f s i h) (onP 2 p2 (Ha n f s d g) L))) (IT n f s (wr .i64 (A2 (ofNat n) 1)) h (VQ n f s i h))] (by kernel_rfl) (by simp only [h0,h1,hp0,hp2] <;> rfl)
theorem Ub (L:LT) (n:Nat) (f:Nat->E6) (hn:n <= 4611686018427387904):∀ (e i:Nat) (j:Nat->V) (q:Nat),n = i+e->e < q ->
  (A9 (G0 L) (Mk n f) q (LW n f (ofNat (Aj (λk=>As (f k)) i)) i (CG (λk=>As (f k)) i) j)).sem = some (HO n f (ofNat (Aj (λk=>As (f k)) n)) n (CG (λk=>As (f k)) n))
 | 0,i,j,q+1,h,_=>by
  have:n = i:=by omega
  subst this
  exact Ad (Af9 L n f _ _ _ j (AD (Nat.le_refl _)))
 | e+1,i,j,q+1,h,h2=>by
  have hc:=AX (λk=>As (f k)) i
  have hl:ilt (ofNat i) (ofNat n) = true:=ofNat_lt (by omega)
  have hb:Af (ile 0 (ofNat i)) (ilt (ofNat i) (ofNat n)) = true:=by rw [AI,hl]; rfl
  have hk:nlt i n = true:=by simpa [nlt] using (show i < n by omega)
  cases hp:As (f i) with
  | true =>
   rw [Ad (Af7 L n f _ i _ j hl hb hk hp),Ax,Ao (show i < n by omega) hn,Ao (show Aj (λk=>As (f k)) i < n by omega) hn,
    show Aj (λk=>As (f k)) i+1 = Aj (λk=>As (f k)) (i+1) by rw [Aj,hp],Cl,Ke]
   exact Ub L n f hn e (i+1) (λ_=>.und) q (by omega) (by omega)
  | false =>
   rw [Ad (Af8 L n f _ i _ j hl hb hk hp),Ax,Ao (show i < n by omega) hn,Cl,Ke,
    show Aj (λk=>As (f k)) i = Aj (λk=>As (f k)) (i+1) by rw [Aj,hp]]
   exact Ub L n f hn e (i+1) (λ_=>.und) q (by omega) (by omega)
theorem Yr (L:LT) (n:Nat) (f:Nat->E6) (hn:n <= 4611686018427387904):∀ (D:Nat) (j:Nat->V) (q:Nat),D <= n->D < q->(∀ k,D <= k->k < n->Aj (λk=>As (f k)) k = Aj (λk=>As (f k)) n) ->
  (A9 (FC L) (Gn n f) q (IS n f (ofNat (Aj (λk=>As (f k)) n)) (dn D) (CG (λk=>As (f k)) D) j)).sem = some (GZ n f 0 0 (Av (λk=>As (f k)) n))
 | 0,j,q+1,h,_,hb=>by
  rw [<- H5 (λk=>As (f k)) n 0 h (λk hk=>absurd hk (Nat.not_lt_zero _)) hb]
  exact Ad (Afl L n f _ _ _ j rfl)
 | D+1,j,q+1,h,h2,hb=>by
  have hl:ilt (ofNat D) (ofNat n) = true:=ofNat_lt (by omega)
  have hb1:Af (ile 0 (ofNat D)) (ilt (ofNat D) (ofNat n)) = true:=by rw [AI,hl]; rfl
  have hk:nlt D n = true:=by simpa [nlt] using (show D < n by omega)
  have hr:CG (λk=>As (f k)) (D+1) D = ofNat (Aj (λk=>As (f k)) D):=by simp [CG]
  cases hp:ieq (CG (λk=>As (f k)) (D+1) D) (ofNat (Aj (λk=>As (f k)) n)) with
  | true =>
   have he:Aj (λk=>As (f k)) D = Aj (λk=>As (f k)) n:=by
    rw [hr] at hp
    have h7:((Aj (λk=>As (f k)) D:Nat):Int) = ((Aj (λk=>As (f k)) n:Nat):Int):=by simpa [ieq] using hp
    omega
   rw [show dn (D+1) = ofNat D from rfl,Ad (Afj L n f _ _ _ j (AI D) hb1 hk hp),Ax,PP (show D <= n by omega) hn,Cl,show toN (ofNat D) = D from rfl,KY]
   exact Yr L n f hn D (λ_=>.und) q (by omega) (by omega) λk h3 h4=>by
    by_cases h5:k = D
    ·subst h5; exact he
    ·exact hb k (by omega) h4
  | false =>
   have he:Aj (λk=>As (f k)) D ≠ Aj (λk=>As (f k)) n:=λe=>by rw [hr,e] at hp; simp [ieq] at hp
   rw [<- H5 (λk=>As (f k)) n (D+1) h (λk hk e=>he (by have:=AZ (λk=>As (f k)) (show k <= D by omega); have:=AZ (λk=>As (f k)) (show D <= n by omega); omega)) hb]
   exact Ad (Afk L n f _ _ _ j (AI D) hb1 hk hp)
theorem Uc (L:LT) (n:Nat) (f:Nat->E6) (hn:n <= 4611686018427387904):∀ (e i:Nat) (j:Nat->V) (q:Nat),n = i+e->e < q ->
  (A9 (G1 L) (Ml n f) q (LX n f (ofNat (Aj (λk=>Ar (f k)) i)) i (CG (λk=>Ar (f k)) i) j)).sem = some (HP n f (ofNat (Aj (λk=>Ar (f k)) n)) n (CG (λk=>Ar (f k)) n))
 | 0,i,j,q+1,h,_=>by
  have:n = i:=by omega
  subst this
  exact Ad (AfC L n f _ _ _ j (AD (Nat.le_refl _)))
 | e+1,i,j,q+1,h,h2=>by
  have hc:=AX (λk=>Ar (f k)) i
  have hl:ilt (ofNat i) (ofNat n) = true:=ofNat_lt (by omega)
  have hb:Af (ile 0 (ofNat i)) (ilt (ofNat i) (ofNat n)) = true:=by rw [AI,hl]; rfl
  have hk:nlt i n = true:=by simpa [nlt] using (show i < n by omega)
  cases hp:Ar (f i) with
  | true =>
   rw [Ad (AfA L n f _ i _ j hl hb hk hp),Ax,Ao (show i < n by omega) hn,Ao (show Aj (λk=>Ar (f k)) i < n by omega) hn,
    show Aj (λk=>Ar (f k)) i+1 = Aj (λk=>Ar (f k)) (i+1) by rw [Aj,hp],Cl,Ke]
   exact Uc L n f hn e (i+1) (λ_=>.und) q (by omega) (by omega)
  | false =>
   rw [Ad (AfB L n f _ i _ j hl hb hk hp),Ax,Ao (show i < n by omega) hn,Cl,Ke,
    show Aj (λk=>Ar (f k)) i = Aj (λk=>Ar (f k)) (i+1) by rw [Aj,hp]]
   exact Uc L n f hn e (i+1) (λ_=>.und) q (by omega) (by omega)
theorem Ys (L:LT) (n:Nat) (f:Nat->E6) (hn:n <= 4611686018427387904):∀ (D:Nat) (j:Nat->V) (q:Nat),D <= n->D < q->(∀ k,D <= k->k < n->Aj (λk=>Ar (f k)) k = Aj (λk=>Ar (f k)) n) ->
  (A9 (FD L) (Gp n f) q (IT n f (ofNat (Aj (λk=>Ar (f k)) n)) (dn D) (CG (λk=>Ar (f k)) D) j)).sem = some (Ha n f 0 0 (Av (λk=>Ar (f k)) n))
 | 0,j,q+1,h,_,hb=>by
  rw [<- H5 (λk=>Ar (f k)) n 0 h (λk hk=>absurd hk (Nat.not_lt_zero _)) hb]
  exact Ad (Afo L n f _ _ _ j rfl)
 | D+1,j,q+1,h,h2,hb=>by
  have hl:ilt (ofNat D) (ofNat n) = true:=ofNat_lt (by omega)
  have hb1:Af (ile 0 (ofNat D)) (ilt (ofNat D) (ofNat n)) = true:=by rw [AI,hl]; rfl
  have hk:nlt D n = true:=by simpa [nlt] using (show D < n by omega)
  have hr:CG (λk=>Ar (f k)) (D+1) D = ofNat (Aj (λk=>Ar (f k)) D):=by simp [CG]
  cases hp:ieq (CG (λk=>Ar (f k)) (D+1) D) (ofNat (Aj (λk=>Ar (f k)) n)) with
  | true =>
   have he:Aj (λk=>Ar (f k)) D = Aj (λk=>Ar (f k)) n:=by
    rw [hr] at hp
    have h7:((Aj (λk=>Ar (f k)) D:Nat):Int) = ((Aj (λk=>Ar (f k)) n:Nat):Int):=by simpa [ieq] using hp
    omega
   rw [show dn (D+1) = ofNat D from rfl,Ad (Afm L n f _ _ _ j (AI D) hb1 hk hp),Ax,PP (show D <= n by omega) hn,Cl,show toN (ofNat D) = D from rfl,KY]
   exact Ys L n f hn D (λ_=>.und) q (by omega) (by omega) λk h3 h4=>by
    by_cases h5:k = D
    ·subst h5; exact he
    ·exact hb k (by omega) h4
  | false =>
   have he:Aj (λk=>Ar (f k)) D ≠ Aj (λk=>Ar (f k)) n:=λe=>by rw [hr,e] at hp; simp [ieq] at hp
   rw [<- H5 (λk=>Ar (f k)) n (D+1) h (λk hk e=>he (by have:=AZ (λk=>Ar (f k)) (show k <= D by omega); have:=AZ (λk=>Ar (f k)) (show D <= n by omega); omega)) hb]
   exact Ad (Afn L n f _ _ _ j (AI D) hb1 hk hp)
def Uq:List V->T (V × List Blk)
 | [v,.fn g []]=>apL v λn f=>.br (BI 8 (ofNat n) (ofNat n)) (match Nat.beq g 83,Nat.beq g 84 with
  | true,_=>.leaf (.ref 0,[.row 3 1 n λk=>iV (Av (λk=>As (f k)) n k)])
  | false,true=>.leaf (.ref 0,[.row 3 1 n λk=>iV (Av (λk=>Ar (f k)) n k)])
  | false,false=>.fail) .fail
 | _=>.fail
theorem Uj (p:Nat->Bool):CG p 0 = λ_=>0:=by
 funext k
 simp [CG]
theorem Q6 (p:Nat->Bool) (n:Nat) (h:Aj p n = 0):CG p n = Av p n:=by
 funext k
 unfold CG Av
 by_cases h3:k < n
 ·have:=AZ p (show k <= n by omega)
  have h4:Aj p k = 0:=by omega
  simp [h3,h,h4]
 ·simp [h3]
theorem Aa5 (n:Nat) (f:Nat->E6) (hm:BI 8 (ofNat n) (ofNat n) = true) :
  (Az (Ak tab (AS Gl tbY [(0,Mk n f),(2,Gn n f)]) Try.f87 [A4 n f,.fn 83 []] [])).sem = some (.ref 0,[.row 3 1 n λk=>iV (Av (λk=>As (f k)) n k)]):=by
 have hn:n <= 4611686018427387904:=by
  simp only [BI,Bool.and_eq_true,decide_eq_true_eq] at hm
  have:=hm.2.2.1
  simp only [Int.ofNat_eq_natCast] at this
  omega
 have hL:=AL [(0,Mk n f),(2,Gn n f)]
 have h0:=λL j=>Ub L n f hn n 0 j (n+1) (by omega) (by omega)
 have h2:=λL j=>Yr L n f hn n j (n+1) (Nat.le_refl _) (by omega) (λk h1 h2=>by omega)
 rw [Uj] at h0
 rw [<- PP (Nat.le_refl n) hn] at h2
 cases hs:ilt 0 (ofNat (Aj (λk=>As (f k)) n)) with
 | true=>exact A7 (Ay (Ay hL hL) hL) _ (Adk _ _ _ n f _ 0 n (CG (λk=>As (f k)) n) (Av (λk=>As (f k)) n) hm hs (Am (h0 _ _)) (Am (h2 _ _)))
 | false =>
  rw [<- Q6 (λk=>As (f k)) n (by simpa [ilt] using hs)]
  exact A7 (Ay hL hL) _ (Adj _ _ n f _ n _ hm hs (Am (h0 _ _)))
theorem Aa6 (n:Nat) (f:Nat->E6) (hm:BI 8 (ofNat n) (ofNat n) = true) :
  (Az (Ak tab (AS Gl tbY [(0,Ml n f),(2,Gp n f)]) Try.f87 [A4 n f,.fn 84 []] [])).sem = some (.ref 0,[.row 3 1 n λk=>iV (Av (λk=>Ar (f k)) n k)]):=by
 have hn:n <= 4611686018427387904:=by
  simp only [BI,Bool.and_eq_true,decide_eq_true_eq] at hm
  have:=hm.2.2.1
  simp only [Int.ofNat_eq_natCast] at this
  omega
 have hL:=AL [(0,Ml n f),(2,Gp n f)]
 have h0:=λL j=>Uc L n f hn n 0 j (n+1) (by omega) (by omega)
 have h2:=λL j=>Ys L n f hn n j (n+1) (Nat.le_refl _) (by omega) (λk h1 h2=>by omega)
 rw [Uj] at h0
 rw [<- PP (Nat.le_refl n) hn] at h2
 cases hs:ilt 0 (ofNat (Aj (λk=>Ar (f k)) n)) with
 | true=>exact A7 (Ay (Ay hL hL) hL) _ (Adm _ _ _ n f _ 0 n (CG (λk=>Ar (f k)) n) (Av (λk=>Ar (f k)) n) hm hs (Am (h0 _ _)) (Am (h2 _ _)))
 | false =>
  rw [<- Q6 (λk=>Ar (f k)) n (by simpa [ilt] using hs)]
  exact A7 (Ay hL hL) _ (Adl _ _ n f _ n _ hm hs (Am (h0 _ _)))
theorem p92:A6 Try.prog Gl 87 Uq:=by
 refine A5 AO AP Try.func87 (by kernel_rfl) (by kernel_rfl) λvs v h' h=>?_
 unfold Uq at h
 split at h
 ·rename_i u g
  obtain ⟨n,f,ha,h1⟩:=Cj h
  obtain ⟨hm,hq⟩:=Ag h1
  clear h h1
  have hA:BJ [u,.fn g []] [A4 n f,.fn g []]:=λS w cs hv=>by
   obtain ⟨c,l,rfl,q1,q2⟩:=hv
   exact ⟨c,l,rfl,ha S w c q1,q2⟩
  split at hq
  ·rename_i h1
   have h1:=Nat.eq_of_beq_eq_true h1
   subst h1
   have:=Ac hq
   simp only [Prod.mk.injEq] at this
   obtain ⟨rfl,rfl⟩:=this
   have hx:=AQ Nd [(0,Mk n f),(2,Gn n f)]
   exact ⟨_,AS Gl tbY [(0,Mk n f),(2,Gn n f)],_,hA,rfl,hx.1,hx.2,Aa5 n f hm,AC.refl _⟩
  ·rename_i h1
   have h1:=Nat.eq_of_beq_eq_true h1
   subst h1
   have:=Ac hq
   simp only [Prod.mk.injEq] at this
   obtain ⟨rfl,rfl⟩:=this
   have hx:=AQ Nd [(0,Ml n f),(2,Gp n f)]
   exact ⟨_,AS Gl tbY [(0,Ml n f),(2,Gp n f)],_,hA,rfl,hx.1,hx.2,Aa6 n f hm,AC.refl _⟩
  ·cases hq
 ·cases h
end Go.Proofs.Ytjhnfomefcngfaa.Ed
namespace Go.Proofs.Ytjhnfomefcngfaa.Ed
open Go.Sy
end Go.Proofs.Ytjhnfomefcngfaa.Ed
namespace Go.Proofs.Ytjhnfomefcngfaa.Ed
open Go.Sy
def okI (v:V):Bool:=match gI v with
 | some _=>true
 | none=>false
def edI (v:V):Int:=match gI v with
 | some e=>e
 | none=>0
theorem NB {v:V} (h:okI v = true):v = iV (edI v):=by
 unfold okI at h
 unfold edI
 split at h
 ·rename_i e he
  exact Gt he
 ·cases h
def ER (n:Nat) (f:Nat->Int):V:=.sl 1 n λi=>iV (f i)
def Acf:V->Option (Nat × (Nat->V))
 | .sl s n g=>match Nat.beq s 1 with
  | true=>some (n,g)
  | false=>none
 | _=>none
def apI {α:Type} (v:V) (F:Nat->(Nat->Int)->T α):T α :=
 match Acf v with
 | some (n,g)=>.br (Au n λi=>okI (g i)) (F n λi=>edI (g i)) .fail
 | none=>.fail
theorem Hq {α:Type} {v:V} {F:Nat->(Nat->Int)->T α} {r:α} (h:(apI v F).sem = some r) :
  ∃ n f,(∀ (S:Nat->Prop) (w:World) (c:Value),VR S w v noK c->VR S w (ER n f) noK c) ∧ (F n f).sem = some r:=by
 unfold apI at h
 split at h
 ·rename_i n g hg
  obtain ⟨h1,h2⟩:=Ag h
  have h1:=AJ.1 h1
  refine ⟨n,_,λS w c hv=>?_,h2⟩
  unfold Acf at hg
  split at hg
  ·rename_i s n' g'
   split at hg
   ·rename_i hs
    simp only [Option.some.injEq,Prod.mk.injEq] at hg
    obtain ⟨rfl,rfl⟩:=hg
    have hs:s = 1:=Nat.eq_of_beq_eq_true hs
    subst hs
    obtain ⟨a,cap,e,hc,hb⟩:=hv
    refine ⟨a,cap,e,hc,hb.imp id ?_⟩
    rintro ⟨b,o,ea,hel⟩
    refine ⟨b,o,ea,λi hi=>?_⟩
    have:=hel i hi
    rw [NB (h1 i hi)] at this
    exact this
   ·cases hg
  ·cases hg
 ·cases h
def Acu (F:Nat->(Nat->Int)->T (V × List Blk)):List V->T (V × List Blk)
 | [v]=>apI v F
 | _=>.fail
theorem PZ {F:Nat->(Nat->Int)->T (V × List Blk)} {vs:List V} {r:V × List Blk} (h:(Acu F vs).sem = some r):∃ n f,BJ vs [ER n f] ∧ (F n f).sem = some r:=by
 unfold Acu at h
 split at h
 ·obtain ⟨n,f,h1,h2⟩:=Hq h
  refine ⟨n,f,λS w cs hv=>?_,h2⟩
  obtain ⟨c,l,rfl,q1,q2⟩:=hv
  exact ⟨c,l,rfl,h1 S w c q1,q2⟩
 ·cases h
def okB (v:V):Bool:=match gB v with
 | some _=>true
 | none=>false
def edB (v:V):Bool:=match gB v with
 | some e=>e
 | none=>false
theorem YS {v:V} (h:okB v = true):v = bV (edB v):=by
 unfold okB at h
 unfold edB
 split at h
 ·rename_i e he
  exact QV he
 ·cases h
def UR (n:Nat) (f:Nat->Bool):V:=.sl 1 n λi=>bV (f i)
def apB {α:Type} (v:V) (F:Nat->(Nat->Bool)->T α):T α :=
 match Acf v with
 | some (n,g)=>.br (Au n λi=>okB (g i)) (F n λi=>edB (g i)) .fail
 | none=>.fail
theorem Aar {α:Type} {v:V} {F:Nat->(Nat->Bool)->T α} {r:α} (h:(apB v F).sem = some r) :
  ∃ n f,(∀ (S:Nat->Prop) (w:World) (c:Value),VR S w v noK c->VR S w (UR n f) noK c) ∧ (F n f).sem = some r:=by
 unfold apB at h
 split at h
 ·rename_i n g hg
  obtain ⟨h1,h2⟩:=Ag h
  have h1:=AJ.1 h1
  refine ⟨n,_,λS w c hv=>?_,h2⟩
  unfold Acf at hg
  split at hg
  ·rename_i s n' g'
   split at hg
   ·rename_i hs
    simp only [Option.some.injEq,Prod.mk.injEq] at hg
    obtain ⟨rfl,rfl⟩:=hg
    have hs:s = 1:=Nat.eq_of_beq_eq_true hs
    subst hs
    obtain ⟨a,cap,e,hc,hb⟩:=hv
    refine ⟨a,cap,e,hc,hb.imp id ?_⟩
    rintro ⟨b,o,ea,hel⟩
    refine ⟨b,o,ea,λi hi=>?_⟩
    have:=hel i hi
    rw [YS (h1 i hi)] at this
    exact this
   ·cases hg
  ·cases hg
 ·cases h
theorem AgO {α:Type} (n:Nat) (f:Nat->E6) (F:Nat->(Nat->E6)->T α):(apL (A4 n f) F).sem = (F n f).sem:=by
 show sel (Au n λi=>okE (eV (f i))) (F n f).sem none = _
 rw [Acv]
 rfl
end Go.Proofs.Ytjhnfomefcngfaa.Ed
