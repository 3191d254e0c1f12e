/-
  Layer 4: the parts of a cycle. No conditions.
-/
import Derived.Test.YtjhnfomefcngfaaCyB
import Derived.Test.YtjhnfomefcngfaaSyS
namespace Go.Proofs.Ytjhnfomefcngfaa.Ed
open Go.Sy
open Int (ofNat)
def CI (p:Nat->Bool) (i k:Nat):Int:=bif decide (k < i) then ofNat (Al p k) else 0
def A0 (p:Nat->Bool) (n k:Nat):Int:=bif decide (k < n) then (bif decide (Al p k = Al p n) then 0 else ofNat (Al p k)) else 0
def Nj (h:Nat->Int) (i:Nat) (s:Int) (k:Nat):Int:=bif decide (k = i) then s else h k
theorem Cl (h:Nat->Int) (i:Nat) (s:Int):Bu (λk=>iV (h k)) i (iV s) = λk=>iV (Nj h i s k):=by
 funext k
 rw [G1,show Nat.beq k i = decide (k = i) by rw [Bool.eq_iff_iff]; simp]
 unfold Nj
 cases decide (k = i) <;> rfl
theorem JR (p:Nat->Bool) (i:Nat):Nj (CI p i) i (ofNat (Al p i)) = CI p (i+1):=by
 funext k
 unfold Nj CI
 by_cases h:k = i
 ·subst h; simp
 ·by_cases h2:k < i
  ·have:k < i+1:=by omega
   simp [h,h2,this]
  ·have:¬ k < i+1:=by omega
   simp [h,h2,this]
theorem Ll (p:Nat->Bool) (i:Nat):Nj (CI p (i+1)) i 0 = CI p i:=by
 funext k
 unfold Nj CI
 by_cases h:k = i
 ·subst h; simp
 ·by_cases h2:k < i
  ·have:k < i+1:=by omega
   simp [h,h2,this]
  ·have:¬ k < i+1:=by omega
   simp [h,h2,this]
def dn:Nat->Int
 | 0=>-1
 | D+1=>ofNat D
theorem PX {D n:Nat} (h:D <= n) (hn:n <= 4611686018427387904):wr .i64 (AK (ofNat D) 1) = dn D:=by
 cases D with
 | zero=>rfl
 | succ D =>
  unfold wr AK IntKind.wrap dn
  simp [IntKind.bits,IntKind.signed]
  omega
theorem Bc (p:Nat->Bool):∀ {i k:Nat},i <= k->Al p i <= Al p k
 | i,0,h=>by
  have:i = 0:=by omega
  subst this
  exact Nat.le_refl _
 | i,k+1,h=>by
  by_cases h2:i = k+1
  ·subst h2; exact Nat.le_refl _
  ·have:=Bc p (show i <= k by omega)
   refine Nat.le_trans this ?_
   rw [show Al p (k+1) = (match p k with | true=>Al p k+1 | false=>Al p k) from rfl]
   cases p k
   ·exact Nat.le_refl _
   ·exact Nat.le_succ _
theorem Hg (p:Nat->Bool) (n D:Nat) (h:D <= n) (h1:∀ k,k < D->Al p k ≠ Al p n) (h2:∀ k,D <= k->k < n->Al p k = Al p n):CI p D = A0 p n:=by
 funext k
 unfold CI A0
 by_cases h3:k < D
 ·have h4:k < n:=by omega
  simp [h3,h4,h1 k h3]
 ·by_cases h4:k < n
  ·simp [h3,h4,h2 k (by omega) h4]
  ·simp [h3,h4]
def Mp (n:Nat) (f:Nat->E6):Lp:=⟨(bmK 51 0 [0,1,5,6,13,14,15]),2,bmK 51 0 [0,5,6],2,n+1⟩
def Pq (n:Nat) (f:Nat->E6) (s:Int) (i:Nat) (h:Nat->Int) (j:Nat->V):St:=⟨(jsV 51 0 j [(0,.sl 6 n (λi=>eV (f i))),(1,.fn 83 []),(5,.ref 1),(6,iV s),(13,.sl 6 n (λi=>eV (f i))),(14,nV n),(15,nV i)]),[.row 3 1 0 (λ_=>.und),.row 3 1 n (λk=>iV (h k))]⟩
def LM (n:Nat) (f:Nat->E6) (s:Int) (i:Nat) (h:Nat->Int):Ex × St:=(.ex 0,⟨(jsV 51 0 (λ_=>.und) [(0,.sl 6 n (λi=>eV (f i))),(5,.ref 1),(6,iV s)]),[.row 3 1 0 (λ_=>.und),.row 3 1 n (λk=>iV (h k))]⟩)
noncomputable def IY (L:LT):St->T (Ex × St):=λst=>AC tab ⟨Am tbY,L,Gl⟩ (Au Try.f87 0) 0 st
section
variable (L:LT) (n:Nat) (f:Nat->E6) (s:Int) (i:Nat) (h:Nat->Int)  (j:Nat->V)
include L n f s i h j
abbrev r3Z:Blk:=.row 3 1 0 λ_=>.und
theorem Ahe (h0:ilt (ofNat i) (ofNat n) = false):Ah (IY L) (Mp n f) (Pq n f s i h j) = some ((.ex 0),⟨(jsV 51 0 (λ_=>.und) [(0,(.sl 6 n (λi=>(eV (f i))))),(5,(.ref 1)),(6,(iV s))]),[r3Z,(.row 3 1 n (λk=>(iV (h k))))]⟩):=by
 exact Aa (ks:=[kn h0]) (by kernel_rfl)
theorem Ahc (h0:ilt (ofNat i) (ofNat n) = true) (h1:Ak (ile 0 (ofNat i)) (ilt (ofNat i) (ofNat n)) = true) (h2:nlt i n = true) (h3:Ax (f i) = true):Ah (IY L) (Mp n f) (Pq n f s i h j) = some (.nm,⟨(jsV 51 0 (λ_=>.und) [(0,(.sl 6 n (λi=>(eV (f i))))),(1,(.fn 83 [])),(5,(.ref 1)),(6,(iV (wr .i64 (Af s 1)))),(13,(.sl 6 n (λi=>(eV (f i))))),(14,(nV n)),(15,(iV (wr .i64 (Af (ofNat i) 1))))]),[r3Z,(.row 3 1 n (Bu (λk=>(iV (h k))) i (iV s)))]⟩):=by
 exact Aa (ks:=[kn h0,kn h1,kn h1,kn h2,kn h3]) (by kernel_rfl)
theorem Ahd (h0:ilt (ofNat i) (ofNat n) = true) (h1:Ak (ile 0 (ofNat i)) (ilt (ofNat i) (ofNat n)) = true) (h2:nlt i n = true) (h3:Ax (f i) = false):Ah (IY L) (Mp n f) (Pq n f s i h j) = some (.nm,⟨(jsV 51 0 (λ_=>.und) [(0,(.sl 6 n (λi=>(eV (f i))))),(1,(.fn 83 [])),(5,(.ref 1)),(6,(iV s)),(13,(.sl 6 n (λi=>(eV (f i))))),(14,(nV n)),(15,(iV (wr .i64 (Af (ofNat i) 1))))]),[r3Z,(.row 3 1 n (Bu (λk=>(iV (h k))) i (iV s)))]⟩):=by
 exact Aa (ks:=[kn h0,kn h1,kn h1,kn h2,kn h3]) (by kernel_rfl)
end
def Ae2 (n:Nat) (f:Nat->E6) :Nat->V:=lkV A9 [(4,(.ref 0)),(10,(.sl 6 n (λi=>eV (f i)))),(11,(nV n)),(12,(.ref 1))]
def FU (n:Nat) (f:Nat->E6):Lp:=⟨(bmK 51 0 [5,6,9]),2,bmK 51 0 [5],2,n+1⟩
def JV (n:Nat) (f:Nat->E6) (s d:Int) (h:Nat->Int) (j:Nat->V):St:=⟨(jsV 51 0 j [(5,.ref 1),(6,iV s),(9,iV d)]),[.row 3 1 0 (λ_=>.und),.row 3 1 n (λk=>iV (h k))]⟩
def KA (n:Nat) (f:Nat->E6) (s d:Int) (h:Nat->Int):Ex × St:=(.ex 2,⟨(jsV 51 0 (λ_=>.und) [(5,.ref 1)]),[.row 3 1 0 (λ_=>.und),.row 3 1 n (λk=>iV (h k))]⟩)
noncomputable def GM (L:LT):St->T (Ex × St):=λst=>AC tab ⟨Am tbY,L,Gl⟩ (Au Try.f87 2) 2 st
section
variable (L:LT) (n:Nat) (f:Nat->E6) (s d:Int) (h:Nat->Int)  (j:Nat->V)
include L n f s d h j
theorem AgG (h0:ile 0 d = false):Ah (GM L) (FU n f) (JV n f s d h j) = some ((.ex 2),⟨(jsV 51 0 (λ_=>.und) [(5,(.ref 1))]),[r3Z,(.row 3 1 n (λk=>(iV (h k))))]⟩):=by
 exact Aa (ks:=[kn h0,kn h0,kn h0,kn h0,kn h0,kn h0,kn h0,kF]) (by kernel_rfl)
theorem AgF (h0:ile 0 d = true) (h1:Ak (ile 0 d) (ilt d (ofNat n)) = true) (h2:nlt (toN d) n = true) (h3:ieq (h (toN d)) s = false):Ah (GM L) (FU n f) (JV n f s d h j) = some ((.ex 2),⟨(jsV 51 0 (λ_=>.und) [(5,(.ref 1))]),[r3Z,(.row 3 1 n (λk=>(iV (h k))))]⟩):=by
 exact Aa (ks:=[kn h0,kn h0,kn h0,kn h1,kn h0,kn h2,kn h0,kn h0,kn h0,kn h3]) (by kernel_rfl)
theorem AgE (h0:ile 0 d = true) (h1:Ak (ile 0 d) (ilt d (ofNat n)) = true) (h2:nlt (toN d) n = true) (h3:ieq (h (toN d)) s = true):Ah (GM L) (FU n f) (JV n f s d h j) = some (.nm,⟨(jsV 51 0 (λ_=>.und) [(5,(.ref 1)),(6,(iV s)),(9,(iV (wr .i64 (AK d 1))))]),[r3Z,(.row 3 1 n (Bu (λk=>(iV (h k))) (toN d) (iV 0)))]⟩):=by
 exact Aa (ks:=[kn h0,kn h0,kn h0,kn h1,kn h0,kn h2,kn h0,kn h0,kn h0,kn h3,kn h1,kn h2]) (by kernel_rfl)
end
def Adr (n:Nat) (f:Nat->E6) (s:Int) (i:Nat) (h:Nat->Int):Nat->V:=lkV A9 [(0,(.sl 6 n (λi=>eV (f i)))),(1,.und),(2,.und),(3,.und),(4,.und),(7,.und),(8,.und),(10,.und),(11,.und),(12,.und),(13,.und),(14,.und),(15,.und),(16,.und),(17,.und),(18,.und),(19,.und),(20,.und),(21,.und),(22,.und),(23,.und),(24,.und),(25,.und),(26,.und),(27,.und),(28,.und),(29,.und),(30,(iV s)),(31,(bV (ilt 0 s))),(32,(.sl 6 n (λi=>eV (f i)))),(33,(nV n)),(34,(iV (wr .i64 (AK (ofNat n) 1)))),(35,.und),(36,.und),(37,.und),(38,.und),(39,.und),(40,.und),(41,.und),(42,.und),(43,.und),(44,.und),(45,.und),(46,.und),(47,.und),(48,.und),(49,.und),(50,.und)]
theorem AeL (L:LT) (p0:PT) (n:Nat) (f:Nat->E6) (s:Int) (i:Nat) (h:Nat->Int) (h0:CG 8 (ofNat n) (ofNat n) = true) (h1:ilt 0 s = false) (hp0:p0 (IY (onP 0 p0 (LM n f s i h) L)) (Pq n f 0 0 (λ_=>0) (Ae2 n f )) = true):(Ar (Ai tab ⟨Am tbY,(onP 0 p0 (LM n f s i h) L),Gl⟩ Try.f87 [Az n f,.fn 83 []] [])).sem = some ((.ref 0),[(.row 3 1 n (λk=>(iV (h k))))]):=by
 exact Aa (ks:=[kn h0,kn hp0,kn h1]) (by kernel_rfl)
theorem AeM (L:LT) (p0:PT) (p2:PT) (n:Nat) (f:Nat->E6) (s d:Int) (i:Nat) (h g:Nat->Int) (h0:CG 8 (ofNat n) (ofNat n) = true) (h1:ilt 0 s = true) (hp0:p0 (IY (onP 0 p0 (LM n f s i h) (onP 2 p2 (KA n f s d g) L))) (Pq n f 0 0 (λ_=>0) (Ae2 n f )) = true) (hp2:p2 (GM (onP 0 p0 (LM n f s i h) (onP 2 p2 (KA n f s d g) L))) (JV n f s (wr .i64 (AK (ofNat n) 1)) h (Adr n f s i h)) = true):(Ar (Ai tab ⟨Am tbY,(onP 0 p0 (LM n f s i h) (onP 2 p2 (KA n f s d g) L)),Gl⟩ Try.f87 [Az n f,.fn 83 []] [])).sem = some ((.ref 0),[(.row 3 1 n (λk=>(iV (g k))))]):=by
 exact Aa (ks:=[kn h0,kn hp0,kn h1,kn hp2]) (by kernel_rfl)
def Mq (n:Nat) (f:Nat->E6):Lp:=⟨(bmK 51 0 [0,1,5,6,13,14,15]),2,bmK 51 0 [0,5,6],2,n+1⟩
def Pr (n:Nat) (f:Nat->E6) (s:Int) (i:Nat) (h:Nat->Int) (j:Nat->V):St:=⟨(jsV 51 0 j [(0,.sl 6 n (λi=>eV (f i))),(1,.fn 84 []),(5,.ref 1),(6,iV s),(13,.sl 6 n (λi=>eV (f i))),(14,nV n),(15,nV i)]),[.row 3 1 0 (λ_=>.und),.row 3 1 n (λk=>iV (h k))]⟩
def LN (n:Nat) (f:Nat->E6) (s:Int) (i:Nat) (h:Nat->Int):Ex × St:=(.ex 0,⟨(jsV 51 0 (λ_=>.und) [(0,.sl 6 n (λi=>eV (f i))),(5,.ref 1),(6,iV s)]),[.row 3 1 0 (λ_=>.und),.row 3 1 n (λk=>iV (h k))]⟩)
noncomputable def IZ (L:LT):St->T (Ex × St):=λst=>AC tab ⟨Am tbY,L,Gl⟩ (Au Try.f87 0) 0 st
section
variable (L:LT) (n:Nat) (f:Nat->E6) (s:Int) (i:Nat) (h:Nat->Int)  (j:Nat->V)
include L n f s i h j
theorem Ahh (h0:ilt (ofNat i) (ofNat n) = false):Ah (IZ L) (Mq n f) (Pr n f s i h j) = some ((.ex 0),⟨(jsV 51 0 (λ_=>.und) [(0,(.sl 6 n (λi=>(eV (f i))))),(5,(.ref 1)),(6,(iV s))]),[r3Z,(.row 3 1 n (λk=>(iV (h k))))]⟩):=by
 exact Aa (ks:=[kn h0]) (by kernel_rfl)
theorem Ahf (h0:ilt (ofNat i) (ofNat n) = true) (h1:Ak (ile 0 (ofNat i)) (ilt (ofNat i) (ofNat n)) = true) (h2:nlt i n = true) (h3:Aw (f i) = true):Ah (IZ L) (Mq n f) (Pr n f s i h j) = some (.nm,⟨(jsV 51 0 (λ_=>.und) [(0,(.sl 6 n (λi=>(eV (f i))))),(1,(.fn 84 [])),(5,(.ref 1)),(6,(iV (wr .i64 (Af s 1)))),(13,(.sl 6 n (λi=>(eV (f i))))),(14,(nV n)),(15,(iV (wr .i64 (Af (ofNat i) 1))))]),[r3Z,(.row 3 1 n (Bu (λk=>(iV (h k))) i (iV s)))]⟩):=by
 exact Aa (ks:=[kn h0,kn h1,kn h1,kn h2,kn h3]) (by kernel_rfl)
theorem Ahg (h0:ilt (ofNat i) (ofNat n) = true) (h1:Ak (ile 0 (ofNat i)) (ilt (ofNat i) (ofNat n)) = true) (h2:nlt i n = true) (h3:Aw (f i) = false):Ah (IZ L) (Mq n f) (Pr n f s i h j) = some (.nm,⟨(jsV 51 0 (λ_=>.und) [(0,(.sl 6 n (λi=>(eV (f i))))),(1,(.fn 84 [])),(5,(.ref 1)),(6,(iV s)),(13,(.sl 6 n (λi=>(eV (f i))))),(14,(nV n)),(15,(iV (wr .i64 (Af (ofNat i) 1))))]),[r3Z,(.row 3 1 n (Bu (λk=>(iV (h k))) i (iV s)))]⟩):=by
 exact Aa (ks:=[kn h0,kn h1,kn h1,kn h2,kn h3]) (by kernel_rfl)
end
def Ae3 (n:Nat) (f:Nat->E6) :Nat->V:=lkV A9 [(4,(.ref 0)),(10,(.sl 6 n (λi=>eV (f i)))),(11,(nV n)),(12,(.ref 1))]
def FV (n:Nat) (f:Nat->E6):Lp:=⟨(bmK 51 0 [5,6,9]),2,bmK 51 0 [5],2,n+1⟩
def JW (n:Nat) (f:Nat->E6) (s d:Int) (h:Nat->Int) (j:Nat->V):St:=⟨(jsV 51 0 j [(5,.ref 1),(6,iV s),(9,iV d)]),[.row 3 1 0 (λ_=>.und),.row 3 1 n (λk=>iV (h k))]⟩
def KB (n:Nat) (f:Nat->E6) (s d:Int) (h:Nat->Int):Ex × St:=(.ex 2,⟨(jsV 51 0 (λ_=>.und) [(5,.ref 1)]),[.row 3 1 0 (λ_=>.und),.row 3 1 n (λk=>iV (h k))]⟩)
noncomputable def GN (L:LT):St->T (Ex × St):=λst=>AC tab ⟨Am tbY,L,Gl⟩ (Au Try.f87 2) 2 st
section
variable (L:LT) (n:Nat) (f:Nat->E6) (s d:Int) (h:Nat->Int)  (j:Nat->V)
include L n f s d h j
theorem AgJ (h0:ile 0 d = false):Ah (GN L) (FV n f) (JW n f s d h j) = some ((.ex 2),⟨(jsV 51 0 (λ_=>.und) [(5,(.ref 1))]),[r3Z,(.row 3 1 n (λk=>(iV (h k))))]⟩):=by
 exact Aa (ks:=[kn h0,kn h0,kn h0,kn h0,kn h0,kn h0,kn h0,kF]) (by kernel_rfl)
theorem AgI (h0:ile 0 d = true) (h1:Ak (ile 0 d) (ilt d (ofNat n)) = true) (h2:nlt (toN d) n = true) (h3:ieq (h (toN d)) s = false):Ah (GN L) (FV n f) (JW n f s d h j) = some ((.ex 2),⟨(jsV 51 0 (λ_=>.und) [(5,(.ref 1))]),[r3Z,(.row 3 1 n (λk=>(iV (h k))))]⟩):=by
 exact Aa (ks:=[kn h0,kn h0,kn h0,kn h1,kn h0,kn h2,kn h0,kn h0,kn h0,kn h3]) (by kernel_rfl)
theorem AgH (h0:ile 0 d = true) (h1:Ak (ile 0 d) (ilt d (ofNat n)) = true) (h2:nlt (toN d) n = true) (h3:ieq (h (toN d)) s = true):Ah (GN L) (FV n f) (JW n f s d h j) = some (.nm,⟨(jsV 51 0 (λ_=>.und) [(5,(.ref 1)),(6,(iV s)),(9,(iV (wr .i64 (AK d 1))))]),[r3Z,(.row 3 1 n (Bu (λk=>(iV (h k))) (toN d) (iV 0)))]⟩):=by
 exact Aa (ks:=[kn h0,kn h0,kn h0,kn h1,kn h0,kn h2,kn h0,kn h0,kn h0,kn h3,kn h1,kn h2]) (by kernel_rfl)
end
def Ads (n:Nat) (f:Nat->E6) (s:Int) (i:Nat) (h:Nat->Int):Nat->V:=lkV A9 [(0,(.sl 6 n (λi=>eV (f i)))),(1,.und),(2,.und),(3,.und),(4,.und),(7,.und),(8,.und),(10,.und),(11,.und),(12,.und),(13,.und),(14,.und),(15,.und),(16,.und),(17,.und),(18,.und),(19,.und),(20,.und),(21,.und),(22,.und),(23,.und),(24,.und),(25,.und),(26,.und),(27,.und),(28,.und),(29,.und),(30,(iV s)),(31,(bV (ilt 0 s))),(32,(.sl 6 n (λi=>eV (f i)))),(33,(nV n)),(34,(iV (wr .i64 (AK (ofNat n) 1)))),(35,.und),(36,.und),(37,.und),(38,.und),(39,.und),(40,.und),(41,.und),(42,.und),(43,.und),(44,.und),(45,.und),(46,.und),(47,.und),(48,.und),(49,.und),(50,.und)]
theorem AeN (L:LT) (p0:PT) (n:Nat) (f:Nat->E6) (s:Int) (i:Nat) (h:Nat->Int) (h0:CG 8 (ofNat n) (ofNat n) = true) (h1:ilt 0 s = false) (hp0:p0 (IZ (onP 0 p0 (LN n f s i h) L)) (Pr n f 0 0 (λ_=>0) (Ae3 n f )) = true):(Ar (Ai tab ⟨Am tbY,(onP 0 p0 (LN n f s i h) L),Gl⟩ Try.f87 [Az n f,.fn 84 []] [])).sem = some ((.ref 0),[(.row 3 1 n (λk=>(iV (h k))))]):=by
 exact Aa (ks:=[kn h0,kn hp0,kn h1]) (by kernel_rfl)
theorem AeO (L:LT) (p0:PT) (p2:PT) (n:Nat) (f:Nat->E6) (s d:Int) (i:Nat) (h g:Nat->Int) (h0:CG 8 (ofNat n) (ofNat n) = true) (h1:ilt 0 s = true) (hp0:p0 (IZ (onP 0 p0 (LN n f s i h) (onP 2 p2 (KB n f s d g) L))) (Pr n f 0 0 (λ_=>0) (Ae3 n f )) = true) (hp2:p2 (GN (onP 0 p0 (LN n f s i h) (onP 2 p2 (KB n f s d g) L))) (JW n f s (wr .i64 (AK (ofNat n) 1)) h (Ads n f s i h)) = true):(Ar (Ai tab ⟨Am tbY,(onP 0 p0 (LN n f s i h) (onP 2 p2 (KB n f s d g) L)),Gl⟩ Try.f87 [Az n f,.fn 84 []] [])).sem = some ((.ref 0),[(.row 3 1 n (λk=>(iV (g k))))]):=by
 exact Aa (ks:=[kn h0,kn hp0,kn h1,kn hp2]) (by kernel_rfl)
theorem Uy (L:LT) (n:Nat) (f:Nat->E6) (hn:n <= 4611686018427387904):∀ (e i:Nat) (j:Nat->V) (q:Nat),n = i+e->e < q ->
  (A4 (IY L) (Mp n f) q (Pq n f (ofNat (Al (λk=>Ax (f k)) i)) i (CI (λk=>Ax (f k)) i) j)).sem = some (LM n f (ofNat (Al (λk=>Ax (f k)) n)) n (CI (λk=>Ax (f k)) n))
 | 0,i,j,q+1,h,_=>by
  have:n = i:=by omega
  subst this
  exact Ab (Ahe L n f _ _ _ j (A6 (Nat.le_refl _)))
 | e+1,i,j,q+1,h,h2=>by
  have hc:=Be (λk=>Ax (f k)) i
  have hl:ilt (ofNat i) (ofNat n) = true:=ofNat_lt (by omega)
  have hb:Ak (ile 0 (ofNat i)) (ilt (ofNat i) (ofNat n)) = true:=by rw [AF,hl]; rfl
  have hk:nlt i n = true:=by simpa [nlt] using (show i < n by omega)
  cases hp:Ax (f i) with
  | true =>
   rw [Ab (Ahc L n f _ i _ j hl hb hk hp),Aq,Ao (show i < n by omega) hn,Ao (show Al (λk=>Ax (f k)) i < n by omega) hn,
    show Al (λk=>Ax (f k)) i+1 = Al (λk=>Ax (f k)) (i+1) by rw [Al,hp],Cl,JR]
   exact Uy L n f hn e (i+1) (λ_=>.und) q (by omega) (by omega)
  | false =>
   rw [Ab (Ahd L n f _ i _ j hl hb hk hp),Aq,Ao (show i < n by omega) hn,Cl,JR,
    show Al (λk=>Ax (f k)) i = Al (λk=>Ax (f k)) (i+1) by rw [Al,hp]]
   exact Uy L n f hn e (i+1) (λ_=>.und) q (by omega) (by omega)
theorem Zb (L:LT) (n:Nat) (f:Nat->E6) (hn:n <= 4611686018427387904):∀ (D:Nat) (j:Nat->V) (q:Nat),D <= n->D < q->(∀ k,D <= k->k < n->Al (λk=>Ax (f k)) k = Al (λk=>Ax (f k)) n) ->
  (A4 (GM L) (FU n f) q (JV n f (ofNat (Al (λk=>Ax (f k)) n)) (dn D) (CI (λk=>Ax (f k)) D) j)).sem = some (KA n f 0 0 (A0 (λk=>Ax (f k)) n))
 | 0,j,q+1,h,_,hb=>by
  rw [<- Hg (λk=>Ax (f k)) n 0 h (λk hk=>absurd hk (Nat.not_lt_zero _)) hb]
  exact Ab (AgG L n f _ _ _ j rfl)
 | D+1,j,q+1,h,h2,hb=>by
  have hl:ilt (ofNat D) (ofNat n) = true:=ofNat_lt (by omega)
  have hb1:Ak (ile 0 (ofNat D)) (ilt (ofNat D) (ofNat n)) = true:=by rw [AF,hl]; rfl
  have hk:nlt D n = true:=by simpa [nlt] using (show D < n by omega)
  have hr:CI (λk=>Ax (f k)) (D+1) D = ofNat (Al (λk=>Ax (f k)) D):=by simp [CI]
  cases hp:ieq (CI (λk=>Ax (f k)) (D+1) D) (ofNat (Al (λk=>Ax (f k)) n)) with
  | true =>
   have he:Al (λk=>Ax (f k)) D = Al (λk=>Ax (f k)) n:=by
    rw [hr] at hp
    have h7:((Al (λk=>Ax (f k)) D:Nat):Int) = ((Al (λk=>Ax (f k)) n:Nat):Int):=by simpa [ieq] using hp
    omega
   rw [show dn (D+1) = ofNat D from rfl,Ab (AgE L n f _ _ _ j (AF D) hb1 hk hp),Aq,PX (show D <= n by omega) hn,Cl,show toN (ofNat D) = D from rfl,Ll]
   exact Zb L n f hn D (λ_=>.und) q (by omega) (by omega) λk h3 h4=>by
    by_cases h5:k = D
    ·subst h5; exact he
    ·exact hb k (by omega) h4
  | false =>
   have he:Al (λk=>Ax (f k)) D ≠ Al (λk=>Ax (f k)) n:=λe=>by rw [hr,e] at hp; simp [ieq] at hp
   rw [<- Hg (λk=>Ax (f k)) n (D+1) h (λk hk e=>he (by have:=Bc (λk=>Ax (f k)) (show k <= D by omega); have:=Bc (λk=>Ax (f k)) (show D <= n by omega); omega)) hb]
   exact Ab (AgF L n f _ _ _ j (AF D) hb1 hk hp)
theorem Uz (L:LT) (n:Nat) (f:Nat->E6) (hn:n <= 4611686018427387904):∀ (e i:Nat) (j:Nat->V) (q:Nat),n = i+e->e < q ->
  (A4 (IZ L) (Mq n f) q (Pr n f (ofNat (Al (λk=>Aw (f k)) i)) i (CI (λk=>Aw (f k)) i) j)).sem = some (LN n f (ofNat (Al (λk=>Aw (f k)) n)) n (CI (λk=>Aw (f k)) n))
 | 0,i,j,q+1,h,_=>by
  have:n = i:=by omega
  subst this
  exact Ab (Ahh L n f _ _ _ j (A6 (Nat.le_refl _)))
 | e+1,i,j,q+1,h,h2=>by
  have hc:=Be (λk=>Aw (f k)) i
  have hl:ilt (ofNat i) (ofNat n) = true:=ofNat_lt (by omega)
  have hb:Ak (ile 0 (ofNat i)) (ilt (ofNat i) (ofNat n)) = true:=by rw [AF,hl]; rfl
  have hk:nlt i n = true:=by simpa [nlt] using (show i < n by omega)
  cases hp:Aw (f i) with
  | true =>
   rw [Ab (Ahf L n f _ i _ j hl hb hk hp),Aq,Ao (show i < n by omega) hn,Ao (show Al (λk=>Aw (f k)) i < n by omega) hn,
    show Al (λk=>Aw (f k)) i+1 = Al (λk=>Aw (f k)) (i+1) by rw [Al,hp],Cl,JR]
   exact Uz L n f hn e (i+1) (λ_=>.und) q (by omega) (by omega)
  | false =>
   rw [Ab (Ahg L n f _ i _ j hl hb hk hp),Aq,Ao (show i < n by omega) hn,Cl,JR,
    show Al (λk=>Aw (f k)) i = Al (λk=>Aw (f k)) (i+1) by rw [Al,hp]]
   exact Uz L n f hn e (i+1) (λ_=>.und) q (by omega) (by omega)
theorem Zc (L:LT) (n:Nat) (f:Nat->E6) (hn:n <= 4611686018427387904):∀ (D:Nat) (j:Nat->V) (q:Nat),D <= n->D < q->(∀ k,D <= k->k < n->Al (λk=>Aw (f k)) k = Al (λk=>Aw (f k)) n) ->
  (A4 (GN L) (FV n f) q (JW n f (ofNat (Al (λk=>Aw (f k)) n)) (dn D) (CI (λk=>Aw (f k)) D) j)).sem = some (KB n f 0 0 (A0 (λk=>Aw (f k)) n))
 | 0,j,q+1,h,_,hb=>by
  rw [<- Hg (λk=>Aw (f k)) n 0 h (λk hk=>absurd hk (Nat.not_lt_zero _)) hb]
  exact Ab (AgJ L n f _ _ _ j rfl)
 | D+1,j,q+1,h,h2,hb=>by
  have hl:ilt (ofNat D) (ofNat n) = true:=ofNat_lt (by omega)
  have hb1:Ak (ile 0 (ofNat D)) (ilt (ofNat D) (ofNat n)) = true:=by rw [AF,hl]; rfl
  have hk:nlt D n = true:=by simpa [nlt] using (show D < n by omega)
  have hr:CI (λk=>Aw (f k)) (D+1) D = ofNat (Al (λk=>Aw (f k)) D):=by simp [CI]
  cases hp:ieq (CI (λk=>Aw (f k)) (D+1) D) (ofNat (Al (λk=>Aw (f k)) n)) with
  | true =>
   have he:Al (λk=>Aw (f k)) D = Al (λk=>Aw (f k)) n:=by
    rw [hr] at hp
    have h7:((Al (λk=>Aw (f k)) D:Nat):Int) = ((Al (λk=>Aw (f k)) n:Nat):Int):=by simpa [ieq] using hp
    omega
   rw [show dn (D+1) = ofNat D from rfl,Ab (AgH L n f _ _ _ j (AF D) hb1 hk hp),Aq,PX (show D <= n by omega) hn,Cl,show toN (ofNat D) = D from rfl,Ll]
   exact Zc L n f hn D (λ_=>.und) q (by omega) (by omega) λk h3 h4=>by
    by_cases h5:k = D
    ·subst h5; exact he
    ·exact hb k (by omega) h4
  | false =>
   have he:Al (λk=>Aw (f k)) D ≠ Al (λk=>Aw (f k)) n:=λe=>by rw [hr,e] at hp; simp [ieq] at hp
   rw [<- Hg (λk=>Aw (f k)) n (D+1) h (λk hk e=>he (by have:=Bc (λk=>Aw (f k)) (show k <= D by omega); have:=Bc (λk=>Aw (f k)) (show D <= n by omega); omega)) hb]
   exact Ab (AgI L n f _ _ _ j (AF D) hb1 hk hp)
def UB:List V->T (V × List Blk)
 | [v,.fn g []]=>apL v λn f=>.br (CG 8 (ofNat n) (ofNat n)) (match Nat.beq g 83,Nat.beq g 84 with
  | true,_=>.leaf (.ref 0,[.row 3 1 n λk=>iV (A0 (λk=>Ax (f k)) n k)])
  | false,true=>.leaf (.ref 0,[.row 3 1 n λk=>iV (A0 (λk=>Aw (f k)) n k)])
  | false,false=>.fail) .fail
 | _=>.fail
theorem U5 (p:Nat->Bool):CI p 0 = λ_=>0:=by
 funext k
 simp [CI]
theorem QJ (p:Nat->Bool) (n:Nat) (h:Al p n = 0):CI p n = A0 p n:=by
 funext k
 unfold CI A0
 by_cases h3:k < n
 ·have:=Bc p (show k <= n by omega)
  have h4:Al p k = 0:=by omega
  simp [h3,h,h4]
 ·simp [h3]
theorem Ab9 (n:Nat) (f:Nat->E6) (hm:CG 8 (ofNat n) (ofNat n) = true) :
  (Ar (Ai tab (AI Gl tbY [(0,Mp n f),(2,FU n f)]) Try.f87 [Az n f,.fn 83 []] [])).sem = some (.ref 0,[.row 3 1 n λk=>iV (A0 (λk=>Ax (f k)) n k)]):=by
 have hn:n <= 4611686018427387904:=by
  simp only [CG,Bool.and_eq_true,decide_eq_true_eq] at hm
  have:=hm.2.2.1
  simp only [Int.ofNat_eq_natCast] at this
  omega
 have hL:=AE [(0,Mp n f),(2,FU n f)]
 have h0:=λL j=>Uy L n f hn n 0 j (n+1) (by omega) (by omega)
 have h2:=λL j=>Zb L n f hn n j (n+1) (Nat.le_refl _) (by omega) (λk h1 h2=>by omega)
 rw [U5] at h0
 rw [<- PX (Nat.le_refl n) hn] at h2
 cases hs:ilt 0 (ofNat (Al (λk=>Ax (f k)) n)) with
 | true=>exact A2 (As (As hL hL) hL) _ (AeM _ _ _ n f _ 0 n (CI (λk=>Ax (f k)) n) (A0 (λk=>Ax (f k)) n) hm hs (Aj (h0 _ _)) (Aj (h2 _ _)))
 | false =>
  rw [<- QJ (λk=>Ax (f k)) n (by simpa [ilt] using hs)]
  exact A2 (As hL hL) _ (AeL _ _ n f _ n _ hm hs (Aj (h0 _ _)))
theorem AbA (n:Nat) (f:Nat->E6) (hm:CG 8 (ofNat n) (ofNat n) = true) :
  (Ar (Ai tab (AI Gl tbY [(0,Mq n f),(2,FV n f)]) Try.f87 [Az n f,.fn 84 []] [])).sem = some (.ref 0,[.row 3 1 n λk=>iV (A0 (λk=>Aw (f k)) n k)]):=by
 have hn:n <= 4611686018427387904:=by
  simp only [CG,Bool.and_eq_true,decide_eq_true_eq] at hm
  have:=hm.2.2.1
  simp only [Int.ofNat_eq_natCast] at this
  omega
 have hL:=AE [(0,Mq n f),(2,FV n f)]
 have h0:=λL j=>Uz L n f hn n 0 j (n+1) (by omega) (by omega)
 have h2:=λL j=>Zc L n f hn n j (n+1) (Nat.le_refl _) (by omega) (λk h1 h2=>by omega)
 rw [U5] at h0
 rw [<- PX (Nat.le_refl n) hn] at h2
 cases hs:ilt 0 (ofNat (Al (λk=>Aw (f k)) n)) with
 | true=>exact A2 (As (As hL hL) hL) _ (AeO _ _ _ n f _ 0 n (CI (λk=>Aw (f k)) n) (A0 (λk=>Aw (f k)) n) hm hs (Aj (h0 _ _)) (Aj (h2 _ _)))
 | false =>
  rw [<- QJ (λk=>Aw (f k)) n (by simpa [ilt] using hs)]
  exact A2 (As hL hL) _ (AeN _ _ n f _ n _ hm hs (Aj (h0 _ _)))
theorem p92:A7 Try.prog Gl 87 UB:=by
 refine Av AL AN Try.func87 (by kernel_rfl) (by kernel_rfl) λvs v h' h=>?_
 unfold UB at h
 split at h
 ·rename_i u g
  obtain ⟨n,f,ha,h1⟩:=Ci h
  obtain ⟨hm,hq⟩:=Ad h1
  clear h h1
  have hA:Bp [u,.fn g []] [Az n f,.fn g []]:=λS w cs hv=>by
   obtain ⟨c,l,rfl,q1,q2⟩:=hv
   exact ⟨c,l,rfl,ha S w c q1,q2⟩
  split at hq
  ·rename_i h1
   have h1:=Nat.eq_of_beq_eq_true h1
   subst h1
   have:=Ac hq
   simp only [Prod.mk.injEq] at this
   obtain ⟨rfl,rfl⟩:=this
   have hx:=AO Np [(0,Mp n f),(2,FU n f)]
   exact ⟨_,AI Gl tbY [(0,Mp n f),(2,FU n f)],_,hA,rfl,hx.1,hx.2,Ab9 n f hm,A8.refl _⟩
  ·rename_i h1
   have h1:=Nat.eq_of_beq_eq_true h1
   subst h1
   have:=Ac hq
   simp only [Prod.mk.injEq] at this
   obtain ⟨rfl,rfl⟩:=this
   have hx:=AO Np [(0,Mq n f),(2,FV n f)]
   exact ⟨_,AI Gl tbY [(0,Mq n f),(2,FV n f)],_,hA,rfl,hx.1,hx.2,AbA n f hm,A8.refl _⟩
  ·cases hq
 ·cases h
end Go.Proofs.Ytjhnfomefcngfaa.Ed
namespace Go.Proofs.Ytjhnfomefcngfaa.Ed
open Go.Sy
end Go.Proofs.Ytjhnfomefcngfaa.Ed
namespace Go.Proofs.Ytjhnfomefcngfaa.Ed
open Go.Sy
def okI (v:V):Bool:=match gI v with
 | some _=>true
 | none=>false
def edI (v:V):Int:=match gI v with
 | some e=>e
 | none=>0
theorem NM {v:V} (h:okI v = true):v = iV (edI v):=by
 unfold okI at h
 unfold edI
 split at h
 ·rename_i e he
  exact FZ he
 ·cases h
def Cf (n:Nat) (f:Nat->Int):V:=.sl 1 n λi=>iV (f i)
def Ad0:V->Option (Nat × (Nat->V))
 | .sl s n g=>match Nat.beq s 1 with
  | true=>some (n,g)
  | false=>none
 | _=>none
def apI {α:Type} (v:V) (F:Nat->(Nat->Int)->T α):T α :=
 match Ad0 v with
 | some (n,g)=>.br (A5 n λi=>okI (g i)) (F n λi=>edI (g i)) .fail
 | none=>.fail
theorem ED {α:Type} {v:V} {F:Nat->(Nat->Int)->T α} {r:α} (h:(apI v F).sem = some r) :
  ∃ n f,(∀ (S:Nat->Prop) (w:World) (c:Value),VR S w v noK c->VR S w (Cf n f) noK c) ∧ (F n f).sem = some r:=by
 unfold apI at h
 split at h
 ·rename_i n g hg
  obtain ⟨h1,h2⟩:=Ad h
  have h1:=A3.1 h1
  refine ⟨n,_,λS w c hv=>?_,h2⟩
  unfold Ad0 at hg
  split at hg
  ·rename_i s n' g'
   split at hg
   ·rename_i hs
    simp only [Option.some.injEq,Prod.mk.injEq] at hg
    obtain ⟨rfl,rfl⟩:=hg
    have hs:s = 1:=Nat.eq_of_beq_eq_true hs
    subst hs
    obtain ⟨a,cap,e,hc,hb⟩:=hv
    refine ⟨a,cap,e,hc,hb.imp id ?_⟩
    rintro ⟨b,o,ea,hel⟩
    refine ⟨b,o,ea,λi hi=>?_⟩
    have:=hel i hi
    rw [NM (h1 i hi)] at this
    exact this
   ·cases hg
  ·cases hg
 ·cases h
def AdH (F:Nat->(Nat->Int)->Nat->(Nat->Int)->T (V × List Blk)):List V->T (V × List Blk)
 | [v,u]=>apI v λn f=>apI u λm g=>F n f m g
 | _=>.fail
theorem Qg {F:Nat->(Nat->Int)->Nat->(Nat->Int)->T (V × List Blk)} {vs:List V} {r:V × List Blk} (h:(AdH F vs).sem = some r) :
  ∃ n f m g,Bp vs [Cf n f,Cf m g] ∧ (F n f m g).sem = some r:=by
 unfold AdH at h
 split at h
 ·obtain ⟨n,f,h1,h2⟩:=ED h
  obtain ⟨m,g,h3,h4⟩:=ED h2
  refine ⟨n,f,m,g,λS w cs hv=>?_,h4⟩
  obtain ⟨c,l,rfl,q1,c',l',rfl,q2,q3⟩:=hv
  exact ⟨c,_,rfl,h1 S w c q1,c',l',rfl,h3 S w c' q2,q3⟩
 ·cases h
def AdI (F:Nat->(Nat->Int)->T (V × List Blk)):List V->T (V × List Blk)
 | [v]=>apI v F
 | _=>.fail
theorem Qh {F:Nat->(Nat->Int)->T (V × List Blk)} {vs:List V} {r:V × List Blk} (h:(AdI F vs).sem = some r):∃ n f,Bp vs [Cf n f] ∧ (F n f).sem = some r:=by
 unfold AdI at h
 split at h
 ·obtain ⟨n,f,h1,h2⟩:=ED h
  refine ⟨n,f,λS w cs hv=>?_,h2⟩
  obtain ⟨c,l,rfl,q1,q2⟩:=hv
  exact ⟨c,l,rfl,h1 S w c q1,q2⟩
 ·cases h
def okB (v:V):Bool:=match gB v with
 | some _=>true
 | none=>false
def edB (v:V):Bool:=match gB v with
 | some e=>e
 | none=>false
theorem ZE {v:V} (h:okB v = true):v = bV (edB v):=by
 unfold okB at h
 unfold edB
 split at h
 ·rename_i e he
  exact Ro he
 ·cases h
def V5 (n:Nat) (f:Nat->Bool):V:=.sl 1 n λi=>bV (f i)
def apB {α:Type} (v:V) (F:Nat->(Nat->Bool)->T α):T α :=
 match Ad0 v with
 | some (n,g)=>.br (A5 n λi=>okB (g i)) (F n λi=>edB (g i)) .fail
 | none=>.fail
theorem Abu {α:Type} {v:V} {F:Nat->(Nat->Bool)->T α} {r:α} (h:(apB v F).sem = some r) :
  ∃ n f,(∀ (S:Nat->Prop) (w:World) (c:Value),VR S w v noK c->VR S w (V5 n f) noK c) ∧ (F n f).sem = some r:=by
 unfold apB at h
 split at h
 ·rename_i n g hg
  obtain ⟨h1,h2⟩:=Ad h
  have h1:=A3.1 h1
  refine ⟨n,_,λS w c hv=>?_,h2⟩
  unfold Ad0 at hg
  split at hg
  ·rename_i s n' g'
   split at hg
   ·rename_i hs
    simp only [Option.some.injEq,Prod.mk.injEq] at hg
    obtain ⟨rfl,rfl⟩:=hg
    have hs:s = 1:=Nat.eq_of_beq_eq_true hs
    subst hs
    obtain ⟨a,cap,e,hc,hb⟩:=hv
    refine ⟨a,cap,e,hc,hb.imp id ?_⟩
    rintro ⟨b,o,ea,hel⟩
    refine ⟨b,o,ea,λi hi=>?_⟩
    have:=hel i hi
    rw [ZE (h1 i hi)] at this
    exact this
   ·cases hg
  ·cases hg
 ·cases h
end Go.Proofs.Ytjhnfomefcngfaa.Ed
