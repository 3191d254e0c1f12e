/-
  Layer 4: the parts of a cycle. No conditions.
-/
import Derived.Test.YthlojajaenfidaaGreatDoorCyB
import Derived.Test.YthlojajaenfidaaGreatDoorSyS
namespace Go.Proofs.YthlojajaenfidaaGreatDoor.Ed
open Go.Sy
open Int (ofNat)
def C8 (p:Nat->Bool) (i k:Nat):Int:=bif decide (k < i) then ofNat (Aj p k) else 0
def Ay (p:Nat->Bool) (n k:Nat):Int:=bif decide (k < n) then (bif decide (Aj p k = Aj p n) then 0 else ofNat (Aj p k)) else 0
def Na (h:Nat->Int) (i:Nat) (s:Int) (k:Nat):Int:=bif decide (k = i) then s else h k
theorem Ce (h:Nat->Int) (i:Nat) (s:Int):Br (λk=>iV (h k)) i (iV s) = λk=>iV (Na h i s k):=by
 funext k
 rw [G0,show Nat.beq k i = decide (k = i) by rw [Bool.eq_iff_iff]; simp]
 unfold Na
 cases decide (k = i) <;> rfl
theorem JS (p:Nat->Bool) (i:Nat):Na (C8 p i) i (ofNat (Aj p i)) = C8 p (i+1):=by
 funext k
 unfold Na C8
 by_cases h:k = i
 ·subst h; simp
 ·by_cases h2:k < i
  ·have:k < i+1:=by omega
   simp [h,h2,this]
  ·have:¬ k < i+1:=by omega
   simp [h,h2,this]
theorem Lu (p:Nat->Bool) (i:Nat):Na (C8 p (i+1)) i 0 = C8 p i:=by
 funext k
 unfold Na C8
 by_cases h:k = i
 ·subst h; simp
 ·by_cases h2:k < i
  ·have:k < i+1:=by omega
   simp [h,h2,this]
  ·have:¬ k < i+1:=by omega
   simp [h,h2,this]
def dn:Nat->Int
 | 0=>-1
 | D+1=>ofNat D
theorem PZ {D n:Nat} (h:D <= n) (hn:n <= 4611686018427387904):wr .i64 (Az (ofNat D) 1) = dn D:=by
 cases D with
 | zero=>rfl
 | succ D =>
  unfold wr Az IntKind.wrap dn
  simp [IntKind.bits,IntKind.signed]
  omega
theorem AW (p:Nat->Bool):∀ {i k:Nat},i <= k->Aj p i <= Aj p k
 | i,0,h=>by
  have:i = 0:=by omega
  subst this
  exact Nat.le_refl _
 | i,k+1,h=>by
  by_cases h2:i = k+1
  ·subst h2; exact Nat.le_refl _
  ·have:=AW p (show i <= k by omega)
   refine Nat.le_trans this ?_
   rw [show Aj p (k+1) = (match p k with | true=>Aj p k+1 | false=>Aj p k) from rfl]
   cases p k
   ·exact Nat.le_refl _
   ·exact Nat.le_succ _
theorem Hc (p:Nat->Bool) (n D:Nat) (h:D <= n) (h1:∀ k,k < D->Aj p k ≠ Aj p n) (h2:∀ k,D <= k->k < n->Aj p k = Aj p n):C8 p D = Ay p n:=by
 funext k
 unfold C8 Ay
 by_cases h3:k < D
 ·have h4:k < n:=by omega
  simp [h3,h4,h1 k h3]
 ·by_cases h4:k < n
  ·simp [h3,h4,h2 k (by omega) h4]
  ·simp [h3,h4]
def Mr (n:Nat) (f:Nat->E6):Lp:=⟨(bmK 51 0 [0,1,5,6,13,14,15]),2,bmK 51 0 [0,5,6],2,n+1⟩
def Pp (n:Nat) (f:Nat->E6) (s:Int) (i:Nat) (h:Nat->Int) (j:Nat->V):St:=⟨(jsV 51 0 j [(0,.sl 6 n (λi=>eV (f i))),(1,.fn 30 []),(5,.ref 1),(6,iV s),(13,.sl 6 n (λi=>eV (f i))),(14,nV n),(15,nV i)]),[.row 3 1 0 (λ_=>.und),.row 3 1 n (λk=>iV (h k))]⟩
def LS (n:Nat) (f:Nat->E6) (s:Int) (i:Nat) (h:Nat->Int):Ex × St:=(.ex 0,⟨(jsV 51 0 (λ_=>.und) [(0,.sl 6 n (λi=>eV (f i))),(5,.ref 1),(6,iV s)]),[.row 3 1 0 (λ_=>.und),.row 3 1 n (λk=>iV (h k))]⟩)
noncomputable def IW (L:LT):St->T (Ex × St):=λst=>AD tab ⟨Ak tbY,L,Gl⟩ (As Tryz.f34 0) 0 st
section
variable (L:LT) (n:Nat) (f:Nat->E6) (s:Int) (i:Nat) (h:Nat->Int)  (j:Nat->V)
include L n f s i h j
abbrev r3Z:Blk:=.row 3 1 0 λ_=>.und
theorem Aht (h0:ilt (ofNat i) (ofNat n) = false):Ag (IW L) (Mr n f) (Pp n f s i h j) = some ((.ex 0),⟨(jsV 51 0 (λ_=>.und) [(0,(.sl 6 n (λi=>(eV (f i))))),(5,(.ref 1)),(6,(iV s))]),[r3Z,(.row 3 1 n (λk=>(iV (h k))))]⟩):=by
 exact Aa (ks:=[kn h0]) (by kernel_rfl)
theorem Ahr (h0:ilt (ofNat i) (ofNat n) = true) (h1:Al (ile 0 (ofNat i)) (ilt (ofNat i) (ofNat n)) = true) (h2:nlt i n = true) (h3:Ax (f i) = true):Ag (IW L) (Mr n f) (Pp n f s i h j) = some (.nm,⟨(jsV 51 0 (λ_=>.und) [(0,(.sl 6 n (λi=>(eV (f i))))),(1,(.fn 30 [])),(5,(.ref 1)),(6,(iV (wr .i64 (Af s 1)))),(13,(.sl 6 n (λi=>(eV (f i))))),(14,(nV n)),(15,(iV (wr .i64 (Af (ofNat i) 1))))]),[r3Z,(.row 3 1 n (Br (λk=>(iV (h k))) i (iV s)))]⟩):=by
 exact Aa (ks:=[kn h0,kn h1,kn h1,kn h2,kn h3]) (by kernel_rfl)
theorem Ahs (h0:ilt (ofNat i) (ofNat n) = true) (h1:Al (ile 0 (ofNat i)) (ilt (ofNat i) (ofNat n)) = true) (h2:nlt i n = true) (h3:Ax (f i) = false):Ag (IW L) (Mr n f) (Pp n f s i h j) = some (.nm,⟨(jsV 51 0 (λ_=>.und) [(0,(.sl 6 n (λi=>(eV (f i))))),(1,(.fn 30 [])),(5,(.ref 1)),(6,(iV s)),(13,(.sl 6 n (λi=>(eV (f i))))),(14,(nV n)),(15,(iV (wr .i64 (Af (ofNat i) 1))))]),[r3Z,(.row 3 1 n (Br (λk=>(iV (h k))) i (iV s)))]⟩):=by
 exact Aa (ks:=[kn h0,kn h1,kn h1,kn h2,kn h3]) (by kernel_rfl)
end
def AeL (n:Nat) (f:Nat->E6) :Nat->V:=lkV A7 [(4,(.ref 0)),(10,(.sl 6 n (λi=>eV (f i)))),(11,(nV n)),(12,(.ref 1))]
def FM (n:Nat) (f:Nat->E6):Lp:=⟨(bmK 51 0 [5,6,9]),2,bmK 51 0 [5],2,n+1⟩
def JX (n:Nat) (f:Nat->E6) (s d:Int) (h:Nat->Int) (j:Nat->V):St:=⟨(jsV 51 0 j [(5,.ref 1),(6,iV s),(9,iV d)]),[.row 3 1 0 (λ_=>.und),.row 3 1 n (λk=>iV (h k))]⟩
def KC (n:Nat) (f:Nat->E6) (s d:Int) (h:Nat->Int):Ex × St:=(.ex 2,⟨(jsV 51 0 (λ_=>.und) [(5,.ref 1)]),[.row 3 1 0 (λ_=>.und),.row 3 1 n (λk=>iV (h k))]⟩)
noncomputable def GL (L:LT):St->T (Ex × St):=λst=>AD tab ⟨Ak tbY,L,Gl⟩ (As Tryz.f34 2) 2 st
section
variable (L:LT) (n:Nat) (f:Nat->E6) (s d:Int) (h:Nat->Int)  (j:Nat->V)
include L n f s d h j
theorem AgV (h0:ile 0 d = false):Ag (GL L) (FM n f) (JX n f s d h j) = some ((.ex 2),⟨(jsV 51 0 (λ_=>.und) [(5,(.ref 1))]),[r3Z,(.row 3 1 n (λk=>(iV (h k))))]⟩):=by
 exact Aa (ks:=[kn h0,kn h0,kn h0,kn h0,kn h0,kn h0,kn h0,kF]) (by kernel_rfl)
theorem AgU (h0:ile 0 d = true) (h1:Al (ile 0 d) (ilt d (ofNat n)) = true) (h2:nlt (toN d) n = true) (h3:ieq (h (toN d)) s = false):Ag (GL L) (FM n f) (JX n f s d h j) = some ((.ex 2),⟨(jsV 51 0 (λ_=>.und) [(5,(.ref 1))]),[r3Z,(.row 3 1 n (λk=>(iV (h k))))]⟩):=by
 exact Aa (ks:=[kn h0,kn h0,kn h0,kn h1,kn h0,kn h2,kn h0,kn h0,kn h0,kn h3]) (by kernel_rfl)
theorem AgT (h0:ile 0 d = true) (h1:Al (ile 0 d) (ilt d (ofNat n)) = true) (h2:nlt (toN d) n = true) (h3:ieq (h (toN d)) s = true):Ag (GL L) (FM n f) (JX n f s d h j) = some (.nm,⟨(jsV 51 0 (λ_=>.und) [(5,(.ref 1)),(6,(iV s)),(9,(iV (wr .i64 (Az d 1))))]),[r3Z,(.row 3 1 n (Br (λk=>(iV (h k))) (toN d) (iV 0)))]⟩):=by
 exact Aa (ks:=[kn h0,kn h0,kn h0,kn h1,kn h0,kn h2,kn h0,kn h0,kn h0,kn h3,kn h1,kn h2]) (by kernel_rfl)
end
def AdA (n:Nat) (f:Nat->E6) (s:Int) (i:Nat) (h:Nat->Int):Nat->V:=lkV A7 [(0,(.sl 6 n (λi=>eV (f i)))),(1,.und),(2,.und),(3,.und),(4,.und),(7,.und),(8,.und),(10,.und),(11,.und),(12,.und),(13,.und),(14,.und),(15,.und),(16,.und),(17,.und),(18,.und),(19,.und),(20,.und),(21,.und),(22,.und),(23,.und),(24,.und),(25,.und),(26,.und),(27,.und),(28,.und),(29,.und),(30,(iV s)),(31,(bV (ilt 0 s))),(32,(.sl 6 n (λi=>eV (f i)))),(33,(nV n)),(34,(iV (wr .i64 (Az (ofNat n) 1)))),(35,.und),(36,.und),(37,.und),(38,.und),(39,.und),(40,.und),(41,.und),(42,.und),(43,.und),(44,.und),(45,.und),(46,.und),(47,.und),(48,.und),(49,.und),(50,.und)]
theorem Afb (L:LT) (p0:PT) (n:Nat) (f:Nat->E6) (s:Int) (i:Nat) (h:Nat->Int) (h0:C5 8 (ofNat n) (ofNat n) = true) (h1:ilt 0 s = false) (hp0:p0 (IW (onP 0 p0 (LS n f s i h) L)) (Pp n f 0 0 (λ_=>0) (AeL n f )) = true):(Au (Ah tab ⟨Ak tbY,(onP 0 p0 (LS n f s i h) L),Gl⟩ Tryz.f34 [A5 n f,.fn 30 []] [])).sem = some ((.ref 0),[(.row 3 1 n (λk=>(iV (h k))))]):=by
 exact Aa (ks:=[kn h0,kn hp0,kn h1]) (by kernel_rfl)
theorem Afc (L:LT) (p0:PT) (p2:PT) (n:Nat) (f:Nat->E6) (s d:Int) (i:Nat) (h g:Nat->Int) (h0:C5 8 (ofNat n) (ofNat n) = true) (h1:ilt 0 s = true) (hp0:p0 (IW (onP 0 p0 (LS n f s i h) (onP 2 p2 (KC n f s d g) L))) (Pp n f 0 0 (λ_=>0) (AeL n f )) = true) (hp2:p2 (GL (onP 0 p0 (LS n f s i h) (onP 2 p2 (KC n f s d g) L))) (JX n f s (wr .i64 (Az (ofNat n) 1)) h (AdA n f s i h)) = true):(Au (Ah tab ⟨Ak tbY,(onP 0 p0 (LS n f s i h) (onP 2 p2 (KC n f s d g) L)),Gl⟩ Tryz.f34 [A5 n f,.fn 30 []] [])).sem = some ((.ref 0),[(.row 3 1 n (λk=>(iV (g k))))]):=by
 exact Aa (ks:=[kn h0,kn hp0,kn h1,kn hp2]) (by kernel_rfl)
def Ms (n:Nat) (f:Nat->E6):Lp:=⟨(bmK 51 0 [0,1,5,6,13,14,15]),2,bmK 51 0 [0,5,6],2,n+1⟩
def Pq (n:Nat) (f:Nat->E6) (s:Int) (i:Nat) (h:Nat->Int) (j:Nat->V):St:=⟨(jsV 51 0 j [(0,.sl 6 n (λi=>eV (f i))),(1,.fn 31 []),(5,.ref 1),(6,iV s),(13,.sl 6 n (λi=>eV (f i))),(14,nV n),(15,nV i)]),[.row 3 1 0 (λ_=>.und),.row 3 1 n (λk=>iV (h k))]⟩
def LU (n:Nat) (f:Nat->E6) (s:Int) (i:Nat) (h:Nat->Int):Ex × St:=(.ex 0,⟨(jsV 51 0 (λ_=>.und) [(0,.sl 6 n (λi=>eV (f i))),(5,.ref 1),(6,iV s)]),[.row 3 1 0 (λ_=>.und),.row 3 1 n (λk=>iV (h k))]⟩)
noncomputable def IX (L:LT):St->T (Ex × St):=λst=>AD tab ⟨Ak tbY,L,Gl⟩ (As Tryz.f34 0) 0 st
section
variable (L:LT) (n:Nat) (f:Nat->E6) (s:Int) (i:Nat) (h:Nat->Int)  (j:Nat->V)
include L n f s i h j
theorem Ahw (h0:ilt (ofNat i) (ofNat n) = false):Ag (IX L) (Ms n f) (Pq n f s i h j) = some ((.ex 0),⟨(jsV 51 0 (λ_=>.und) [(0,(.sl 6 n (λi=>(eV (f i))))),(5,(.ref 1)),(6,(iV s))]),[r3Z,(.row 3 1 n (λk=>(iV (h k))))]⟩):=by
 exact Aa (ks:=[kn h0]) (by kernel_rfl)
theorem Ahu (h0:ilt (ofNat i) (ofNat n) = true) (h1:Al (ile 0 (ofNat i)) (ilt (ofNat i) (ofNat n)) = true) (h2:nlt i n = true) (h3:Aw (f i) = true):Ag (IX L) (Ms n f) (Pq n f s i h j) = some (.nm,⟨(jsV 51 0 (λ_=>.und) [(0,(.sl 6 n (λi=>(eV (f i))))),(1,(.fn 31 [])),(5,(.ref 1)),(6,(iV (wr .i64 (Af s 1)))),(13,(.sl 6 n (λi=>(eV (f i))))),(14,(nV n)),(15,(iV (wr .i64 (Af (ofNat i) 1))))]),[r3Z,(.row 3 1 n (Br (λk=>(iV (h k))) i (iV s)))]⟩):=by
 exact Aa (ks:=[kn h0,kn h1,kn h1,kn h2,kn h3]) (by kernel_rfl)
theorem Ahv (h0:ilt (ofNat i) (ofNat n) = true) (h1:Al (ile 0 (ofNat i)) (ilt (ofNat i) (ofNat n)) = true) (h2:nlt i n = true) (h3:Aw (f i) = false):Ag (IX L) (Ms n f) (Pq n f s i h j) = some (.nm,⟨(jsV 51 0 (λ_=>.und) [(0,(.sl 6 n (λi=>(eV (f i))))),(1,(.fn 31 [])),(5,(.ref 1)),(6,(iV s)),(13,(.sl 6 n (λi=>(eV (f i))))),(14,(nV n)),(15,(iV (wr .i64 (Af (ofNat i) 1))))]),[r3Z,(.row 3 1 n (Br (λk=>(iV (h k))) i (iV s)))]⟩):=by
 exact Aa (ks:=[kn h0,kn h1,kn h1,kn h2,kn h3]) (by kernel_rfl)
end
def AeM (n:Nat) (f:Nat->E6) :Nat->V:=lkV A7 [(4,(.ref 0)),(10,(.sl 6 n (λi=>eV (f i)))),(11,(nV n)),(12,(.ref 1))]
def FN (n:Nat) (f:Nat->E6):Lp:=⟨(bmK 51 0 [5,6,9]),2,bmK 51 0 [5],2,n+1⟩
def JY (n:Nat) (f:Nat->E6) (s d:Int) (h:Nat->Int) (j:Nat->V):St:=⟨(jsV 51 0 j [(5,.ref 1),(6,iV s),(9,iV d)]),[.row 3 1 0 (λ_=>.und),.row 3 1 n (λk=>iV (h k))]⟩
def KD (n:Nat) (f:Nat->E6) (s d:Int) (h:Nat->Int):Ex × St:=(.ex 2,⟨(jsV 51 0 (λ_=>.und) [(5,.ref 1)]),[.row 3 1 0 (λ_=>.und),.row 3 1 n (λk=>iV (h k))]⟩)
noncomputable def GM (L:LT):St->T (Ex × St):=λst=>AD tab ⟨Ak tbY,L,Gl⟩ (As Tryz.f34 2) 2 st
section
variable (L:LT) (n:Nat) (f:Nat->E6) (s d:Int) (h:Nat->Int)  (j:Nat->V)
include L n f s d h j
theorem AgY (h0:ile 0 d = false):Ag (GM L) (FN n f) (JY n f s d h j) = some ((.ex 2),⟨(jsV 51 0 (λ_=>.und) [(5,(.ref 1))]),[r3Z,(.row 3 1 n (λk=>(iV (h k))))]⟩):=by
 exact Aa (ks:=[kn h0,kn h0,kn h0,kn h0,kn h0,kn h0,kn h0,kF]) (by kernel_rfl)
theorem AgX (h0:ile 0 d = true) (h1:Al (ile 0 d) (ilt d (ofNat n)) = true) (h2:nlt (toN d) n = true) (h3:ieq (h (toN d)) s = false):Ag (GM L) (FN n f) (JY n f s d h j) = some ((.ex 2),⟨(jsV 51 0 (λ_=>.und) [(5,(.ref 1))]),[r3Z,(.row 3 1 n (λk=>(iV (h k))))]⟩):=by
 exact Aa (ks:=[kn h0,kn h0,kn h0,kn h1,kn h0,kn h2,kn h0,kn h0,kn h0,kn h3]) (by kernel_rfl)
theorem AgW (h0:ile 0 d = true) (h1:Al (ile 0 d) (ilt d (ofNat n)) = true) (h2:nlt (toN d) n = true) (h3:ieq (h (toN d)) s = true):Ag (GM L) (FN n f) (JY n f s d h j) = some (.nm,⟨(jsV 51 0 (λ_=>.und) [(5,(.ref 1)),(6,(iV s)),(9,(iV (wr .i64 (Az d 1))))]),[r3Z,(.row 3 1 n (Br (λk=>(iV (h k))) (toN d) (iV 0)))]⟩):=by
 exact Aa (ks:=[kn h0,kn h0,kn h0,kn h1,kn h0,kn h2,kn h0,kn h0,kn h0,kn h3,kn h1,kn h2]) (by kernel_rfl)
end
def AdB (n:Nat) (f:Nat->E6) (s:Int) (i:Nat) (h:Nat->Int):Nat->V:=lkV A7 [(0,(.sl 6 n (λi=>eV (f i)))),(1,.und),(2,.und),(3,.und),(4,.und),(7,.und),(8,.und),(10,.und),(11,.und),(12,.und),(13,.und),(14,.und),(15,.und),(16,.und),(17,.und),(18,.und),(19,.und),(20,.und),(21,.und),(22,.und),(23,.und),(24,.und),(25,.und),(26,.und),(27,.und),(28,.und),(29,.und),(30,(iV s)),(31,(bV (ilt 0 s))),(32,(.sl 6 n (λi=>eV (f i)))),(33,(nV n)),(34,(iV (wr .i64 (Az (ofNat n) 1)))),(35,.und),(36,.und),(37,.und),(38,.und),(39,.und),(40,.und),(41,.und),(42,.und),(43,.und),(44,.und),(45,.und),(46,.und),(47,.und),(48,.und),(49,.und),(50,.und)]
theorem Afd (L:LT) (p0:PT) (n:Nat) (f:Nat->E6) (s:Int) (i:Nat) (h:Nat->Int) (h0:C5 8 (ofNat n) (ofNat n) = true) (h1:ilt 0 s = false) (hp0:p0 (IX (onP 0 p0 (LU n f s i h) L)) (Pq n f 0 0 (λ_=>0) (AeM n f )) = true):(Au (Ah tab ⟨Ak tbY,(onP 0 p0 (LU n f s i h) L),Gl⟩ Tryz.f34 [A5 n f,.fn 31 []] [])).sem = some ((.ref 0),[(.row 3 1 n (λk=>(iV (h k))))]):=by
 exact Aa (ks:=[kn h0,kn hp0,kn h1]) (by kernel_rfl)
theorem Afe (L:LT) (p0:PT) (p2:PT) (n:Nat) (f:Nat->E6) (s d:Int) (i:Nat) (h g:Nat->Int) (h0:C5 8 (ofNat n) (ofNat n) = true) (h1:ilt 0 s = true) (hp0:p0 (IX (onP 0 p0 (LU n f s i h) (onP 2 p2 (KD n f s d g) L))) (Pq n f 0 0 (λ_=>0) (AeM n f )) = true) (hp2:p2 (GM (onP 0 p0 (LU n f s i h) (onP 2 p2 (KD n f s d g) L))) (JY n f s (wr .i64 (Az (ofNat n) 1)) h (AdB n f s i h)) = true):(Au (Ah tab ⟨Ak tbY,(onP 0 p0 (LU n f s i h) (onP 2 p2 (KD n f s d g) L)),Gl⟩ Tryz.f34 [A5 n f,.fn 31 []] [])).sem = some ((.ref 0),[(.row 3 1 n (λk=>(iV (g k))))]):=by
 exact Aa (ks:=[kn h0,kn hp0,kn h1,kn hp2]) (by kernel_rfl)
theorem U6 (L:LT) (n:Nat) (f:Nat->E6) (hn:n <= 4611686018427387904):∀ (e i:Nat) (j:Nat->V) (q:Nat),n = i+e->e < q ->
  (AA (IW L) (Mr n f) q (Pp n f (ofNat (Aj (λk=>Ax (f k)) i)) i (C8 (λk=>Ax (f k)) i) j)).sem = some (LS n f (ofNat (Aj (λk=>Ax (f k)) n)) n (C8 (λk=>Ax (f k)) n))
 | 0,i,j,q+1,h,_=>by
  have:n = i:=by omega
  subst this
  exact Ab (Aht L n f _ _ _ j (A9 (Nat.le_refl _)))
 | e+1,i,j,q+1,h,h2=>by
  have hc:=AV (λk=>Ax (f k)) i
  have hl:ilt (ofNat i) (ofNat n) = true:=ofNat_lt (by omega)
  have hb:Al (ile 0 (ofNat i)) (ilt (ofNat i) (ofNat n)) = true:=by rw [AE,hl]; rfl
  have hk:nlt i n = true:=by simpa [nlt] using (show i < n by omega)
  cases hp:Ax (f i) with
  | true =>
   rw [Ab (Ahr L n f _ i _ j hl hb hk hp),Aq,An (show i < n by omega) hn,An (show Aj (λk=>Ax (f k)) i < n by omega) hn,
    show Aj (λk=>Ax (f k)) i+1 = Aj (λk=>Ax (f k)) (i+1) by rw [Aj,hp],Ce,JS]
   exact U6 L n f hn e (i+1) (λ_=>.und) q (by omega) (by omega)
  | false =>
   rw [Ab (Ahs L n f _ i _ j hl hb hk hp),Aq,An (show i < n by omega) hn,Ce,JS,
    show Aj (λk=>Ax (f k)) i = Aj (λk=>Ax (f k)) (i+1) by rw [Aj,hp]]
   exact U6 L n f hn e (i+1) (λ_=>.und) q (by omega) (by omega)
theorem Z1 (L:LT) (n:Nat) (f:Nat->E6) (hn:n <= 4611686018427387904):∀ (D:Nat) (j:Nat->V) (q:Nat),D <= n->D < q->(∀ k,D <= k->k < n->Aj (λk=>Ax (f k)) k = Aj (λk=>Ax (f k)) n) ->
  (AA (GL L) (FM n f) q (JX n f (ofNat (Aj (λk=>Ax (f k)) n)) (dn D) (C8 (λk=>Ax (f k)) D) j)).sem = some (KC n f 0 0 (Ay (λk=>Ax (f k)) n))
 | 0,j,q+1,h,_,hb=>by
  rw [<- Hc (λk=>Ax (f k)) n 0 h (λk hk=>absurd hk (Nat.not_lt_zero _)) hb]
  exact Ab (AgV L n f _ _ _ j rfl)
 | D+1,j,q+1,h,h2,hb=>by
  have hl:ilt (ofNat D) (ofNat n) = true:=ofNat_lt (by omega)
  have hb1:Al (ile 0 (ofNat D)) (ilt (ofNat D) (ofNat n)) = true:=by rw [AE,hl]; rfl
  have hk:nlt D n = true:=by simpa [nlt] using (show D < n by omega)
  have hr:C8 (λk=>Ax (f k)) (D+1) D = ofNat (Aj (λk=>Ax (f k)) D):=by simp [C8]
  cases hp:ieq (C8 (λk=>Ax (f k)) (D+1) D) (ofNat (Aj (λk=>Ax (f k)) n)) with
  | true =>
   have he:Aj (λk=>Ax (f k)) D = Aj (λk=>Ax (f k)) n:=by
    rw [hr] at hp
    have h7:((Aj (λk=>Ax (f k)) D:Nat):Int) = ((Aj (λk=>Ax (f k)) n:Nat):Int):=by simpa [ieq] using hp
    omega
   rw [show dn (D+1) = ofNat D from rfl,Ab (AgT L n f _ _ _ j (AE D) hb1 hk hp),Aq,PZ (show D <= n by omega) hn,Ce,show toN (ofNat D) = D from rfl,Lu]
   exact Z1 L n f hn D (λ_=>.und) q (by omega) (by omega) λk h3 h4=>by
    by_cases h5:k = D
    ·subst h5; exact he
    ·exact hb k (by omega) h4
  | false =>
   have he:Aj (λk=>Ax (f k)) D ≠ Aj (λk=>Ax (f k)) n:=λe=>by rw [hr,e] at hp; simp [ieq] at hp
   rw [<- Hc (λk=>Ax (f k)) n (D+1) h (λk hk e=>he (by have:=AW (λk=>Ax (f k)) (show k <= D by omega); have:=AW (λk=>Ax (f k)) (show D <= n by omega); omega)) hb]
   exact Ab (AgU L n f _ _ _ j (AE D) hb1 hk hp)
theorem U7 (L:LT) (n:Nat) (f:Nat->E6) (hn:n <= 4611686018427387904):∀ (e i:Nat) (j:Nat->V) (q:Nat),n = i+e->e < q ->
  (AA (IX L) (Ms n f) q (Pq n f (ofNat (Aj (λk=>Aw (f k)) i)) i (C8 (λk=>Aw (f k)) i) j)).sem = some (LU n f (ofNat (Aj (λk=>Aw (f k)) n)) n (C8 (λk=>Aw (f k)) n))
 | 0,i,j,q+1,h,_=>by
  have:n = i:=by omega
  subst this
  exact Ab (Ahw L n f _ _ _ j (A9 (Nat.le_refl _)))
 | e+1,i,j,q+1,h,h2=>by
  have hc:=AV (λk=>Aw (f k)) i
  have hl:ilt (ofNat i) (ofNat n) = true:=ofNat_lt (by omega)
  have hb:Al (ile 0 (ofNat i)) (ilt (ofNat i) (ofNat n)) = true:=by rw [AE,hl]; rfl
  have hk:nlt i n = true:=by simpa [nlt] using (show i < n by omega)
  cases hp:Aw (f i) with
  | true =>
   rw [Ab (Ahu L n f _ i _ j hl hb hk hp),Aq,An (show i < n by omega) hn,An (show Aj (λk=>Aw (f k)) i < n by omega) hn,
    show Aj (λk=>Aw (f k)) i+1 = Aj (λk=>Aw (f k)) (i+1) by rw [Aj,hp],Ce,JS]
   exact U7 L n f hn e (i+1) (λ_=>.und) q (by omega) (by omega)
  | false =>
   rw [Ab (Ahv L n f _ i _ j hl hb hk hp),Aq,An (show i < n by omega) hn,Ce,JS,
    show Aj (λk=>Aw (f k)) i = Aj (λk=>Aw (f k)) (i+1) by rw [Aj,hp]]
   exact U7 L n f hn e (i+1) (λ_=>.und) q (by omega) (by omega)
theorem Z2 (L:LT) (n:Nat) (f:Nat->E6) (hn:n <= 4611686018427387904):∀ (D:Nat) (j:Nat->V) (q:Nat),D <= n->D < q->(∀ k,D <= k->k < n->Aj (λk=>Aw (f k)) k = Aj (λk=>Aw (f k)) n) ->
  (AA (GM L) (FN n f) q (JY n f (ofNat (Aj (λk=>Aw (f k)) n)) (dn D) (C8 (λk=>Aw (f k)) D) j)).sem = some (KD n f 0 0 (Ay (λk=>Aw (f k)) n))
 | 0,j,q+1,h,_,hb=>by
  rw [<- Hc (λk=>Aw (f k)) n 0 h (λk hk=>absurd hk (Nat.not_lt_zero _)) hb]
  exact Ab (AgY L n f _ _ _ j rfl)
 | D+1,j,q+1,h,h2,hb=>by
  have hl:ilt (ofNat D) (ofNat n) = true:=ofNat_lt (by omega)
  have hb1:Al (ile 0 (ofNat D)) (ilt (ofNat D) (ofNat n)) = true:=by rw [AE,hl]; rfl
  have hk:nlt D n = true:=by simpa [nlt] using (show D < n by omega)
  have hr:C8 (λk=>Aw (f k)) (D+1) D = ofNat (Aj (λk=>Aw (f k)) D):=by simp [C8]
  cases hp:ieq (C8 (λk=>Aw (f k)) (D+1) D) (ofNat (Aj (λk=>Aw (f k)) n)) with
  | true =>
   have he:Aj (λk=>Aw (f k)) D = Aj (λk=>Aw (f k)) n:=by
    rw [hr] at hp
    have h7:((Aj (λk=>Aw (f k)) D:Nat):Int) = ((Aj (λk=>Aw (f k)) n:Nat):Int):=by simpa [ieq] using hp
    omega
   rw [show dn (D+1) = ofNat D from rfl,Ab (AgW L n f _ _ _ j (AE D) hb1 hk hp),Aq,PZ (show D <= n by omega) hn,Ce,show toN (ofNat D) = D from rfl,Lu]
   exact Z2 L n f hn D (λ_=>.und) q (by omega) (by omega) λk h3 h4=>by
    by_cases h5:k = D
    ·subst h5; exact he
    ·exact hb k (by omega) h4
  | false =>
   have he:Aj (λk=>Aw (f k)) D ≠ Aj (λk=>Aw (f k)) n:=λe=>by rw [hr,e] at hp; simp [ieq] at hp
   rw [<- Hc (λk=>Aw (f k)) n (D+1) h (λk hk e=>he (by have:=AW (λk=>Aw (f k)) (show k <= D by omega); have:=AW (λk=>Aw (f k)) (show D <= n by omega); omega)) hb]
   exact Ab (AgX L n f _ _ _ j (AE D) hb1 hk hp)
def UM:List V->T (V × List Blk)
 | [v,.fn g []]=>apL v λn f=>.br (C5 8 (ofNat n) (ofNat n)) (match Nat.beq g 30,Nat.beq g 31 with
  | true,_=>.leaf (.ref 0,[.row 3 1 n λk=>iV (Ay (λk=>Ax (f k)) n k)])
  | false,true=>.leaf (.ref 0,[.row 3 1 n λk=>iV (Ay (λk=>Aw (f k)) n k)])
  | false,false=>.fail) .fail
 | _=>.fail
theorem UD (p:Nat->Bool):C8 p 0 = λ_=>0:=by
 funext k
 simp [C8]
theorem QT (p:Nat->Bool) (n:Nat) (h:Aj p n = 0):C8 p n = Ay p n:=by
 funext k
 unfold C8 Ay
 by_cases h3:k < n
 ·have:=AW p (show k <= n by omega)
  have h4:Aj p k = 0:=by omega
  simp [h3,h,h4]
 ·simp [h3]
theorem Acf (n:Nat) (f:Nat->E6) (hm:C5 8 (ofNat n) (ofNat n) = true) :
  (Au (Ah tab (AN Gl tbY [(0,Mr n f),(2,FM n f)]) Tryz.f34 [A5 n f,.fn 30 []] [])).sem = some (.ref 0,[.row 3 1 n λk=>iV (Ay (λk=>Ax (f k)) n k)]):=by
 have hn:n <= 4611686018427387904:=by
  simp only [C5,Bool.and_eq_true,decide_eq_true_eq] at hm
  have:=hm.2.2.1
  simp only [Int.ofNat_eq_natCast] at this
  omega
 have hL:=AF [(0,Mr n f),(2,FM n f)]
 have h0:=λL j=>U6 L n f hn n 0 j (n+1) (by omega) (by omega)
 have h2:=λL j=>Z1 L n f hn n j (n+1) (Nat.le_refl _) (by omega) (λk h1 h2=>by omega)
 rw [UD] at h0
 rw [<- PZ (Nat.le_refl n) hn] at h2
 cases hs:ilt 0 (ofNat (Aj (λk=>Ax (f k)) n)) with
 | true=>exact A1 (Ar (Ar hL hL) hL) _ (Afc _ _ _ n f _ 0 n (C8 (λk=>Ax (f k)) n) (Ay (λk=>Ax (f k)) n) hm hs (Ai (h0 _ _)) (Ai (h2 _ _)))
 | false =>
  rw [<- QT (λk=>Ax (f k)) n (by simpa [ilt] using hs)]
  exact A1 (Ar hL hL) _ (Afb _ _ n f _ n _ hm hs (Ai (h0 _ _)))
theorem Acg (n:Nat) (f:Nat->E6) (hm:C5 8 (ofNat n) (ofNat n) = true) :
  (Au (Ah tab (AN Gl tbY [(0,Ms n f),(2,FN n f)]) Tryz.f34 [A5 n f,.fn 31 []] [])).sem = some (.ref 0,[.row 3 1 n λk=>iV (Ay (λk=>Aw (f k)) n k)]):=by
 have hn:n <= 4611686018427387904:=by
  simp only [C5,Bool.and_eq_true,decide_eq_true_eq] at hm
  have:=hm.2.2.1
  simp only [Int.ofNat_eq_natCast] at this
  omega
 have hL:=AF [(0,Ms n f),(2,FN n f)]
 have h0:=λL j=>U7 L n f hn n 0 j (n+1) (by omega) (by omega)
 have h2:=λL j=>Z2 L n f hn n j (n+1) (Nat.le_refl _) (by omega) (λk h1 h2=>by omega)
 rw [UD] at h0
 rw [<- PZ (Nat.le_refl n) hn] at h2
 cases hs:ilt 0 (ofNat (Aj (λk=>Aw (f k)) n)) with
 | true=>exact A1 (Ar (Ar hL hL) hL) _ (Afe _ _ _ n f _ 0 n (C8 (λk=>Aw (f k)) n) (Ay (λk=>Aw (f k)) n) hm hs (Ai (h0 _ _)) (Ai (h2 _ _)))
 | false =>
  rw [<- QT (λk=>Aw (f k)) n (by simpa [ilt] using hs)]
  exact A1 (Ar hL hL) _ (Afd _ _ n f _ n _ hm hs (Ai (h0 _ _)))
theorem p92:A6 Tryz.prog Gl 34 UM:=by
 refine Av AI mixed Tryz.func34 (by kernel_rfl) (by kernel_rfl) λvs v h' h=>?_
 unfold UM at h
 split at h
 ·rename_i u g
  obtain ⟨n,f,ha,h1⟩:=Cc h
  obtain ⟨hm,hq⟩:=Ad h1
  clear h h1
  have hA:Bm [u,.fn g []] [A5 n f,.fn g []]:=λS w cs hv=>by
   obtain ⟨c,l,rfl,q1,q2⟩:=hv
   exact ⟨c,l,rfl,ha S w c q1,q2⟩
  split at hq
  ·rename_i h1
   have h1:=Nat.eq_of_beq_eq_true h1
   subst h1
   have:=Ac hq
   simp only [Prod.mk.injEq] at this
   obtain ⟨rfl,rfl⟩:=this
   have hx:=AK Nh [(0,Mr n f),(2,FM n f)]
   exact ⟨_,AN Gl tbY [(0,Mr n f),(2,FM n f)],_,hA,rfl,hx.1,hx.2,Acf n f hm,A0.refl _⟩
  ·rename_i h1
   have h1:=Nat.eq_of_beq_eq_true h1
   subst h1
   have:=Ac hq
   simp only [Prod.mk.injEq] at this
   obtain ⟨rfl,rfl⟩:=this
   have hx:=AK Nh [(0,Ms n f),(2,FN n f)]
   exact ⟨_,AN Gl tbY [(0,Ms n f),(2,FN n f)],_,hA,rfl,hx.1,hx.2,Acg n f hm,A0.refl _⟩
  ·cases hq
 ·cases h
end Go.Proofs.YthlojajaenfidaaGreatDoor.Ed
namespace Go.Proofs.YthlojajaenfidaaGreatDoor.Ed
open Go.Sy
end Go.Proofs.YthlojajaenfidaaGreatDoor.Ed
namespace Go.Proofs.YthlojajaenfidaaGreatDoor.Ed
open Go.Sy
def okI (v:V):Bool:=match gI v with
 | some _=>true
 | none=>false
def edI (v:V):Int:=match gI v with
 | some e=>e
 | none=>0
theorem NK {v:V} (h:okI v = true):v = iV (edI v):=by
 unfold okI at h
 unfold edI
 split at h
 ·rename_i e he
  exact FS he
 ·cases h
def E4 (n:Nat) (f:Nat->Int):V:=.sl 1 n λi=>iV (f i)
def Ym:V->Option (Nat × (Nat->V))
 | .sl s n g=>match Nat.beq s 1 with
  | true=>some (n,g)
  | false=>none
 | _=>none
def apI {α:Type} (v:V) (F:Nat->(Nat->Int)->T α):T α :=
 match Ym v with
 | some (n,g)=>.br (AJ n λi=>okI (g i)) (F n λi=>edI (g i)) .fail
 | none=>.fail
theorem GS {α:Type} {v:V} {F:Nat->(Nat->Int)->T α} {r:α} (h:(apI v F).sem = some r) :
  ∃ n f,(∀ (S:Nat->Prop) (w:World) (c:Value),VR S w v noK c->VR S w (E4 n f) noK c) ∧ (F n f).sem = some r:=by
 unfold apI at h
 split at h
 ·rename_i n g hg
  obtain ⟨h1,h2⟩:=Ad h
  have h1:=A4.1 h1
  refine ⟨n,_,λS w c hv=>?_,h2⟩
  unfold Ym at hg
  split at hg
  ·rename_i s n' g'
   split at hg
   ·rename_i hs
    simp only [Option.some.injEq,Prod.mk.injEq] at hg
    obtain ⟨rfl,rfl⟩:=hg
    have hs:s = 1:=Nat.eq_of_beq_eq_true hs
    subst hs
    obtain ⟨a,cap,e,hc,hb⟩:=hv
    refine ⟨a,cap,e,hc,hb.imp id ?_⟩
    rintro ⟨b,o,ea,hel⟩
    refine ⟨b,o,ea,λi hi=>?_⟩
    have:=hel i hi
    rw [NK (h1 i hi)] at this
    exact this
   ·cases hg
  ·cases hg
 ·cases h
def Aea (F:Nat->(Nat->Int)->T (V × List Blk)):List V->T (V × List Blk)
 | [v]=>apI v F
 | _=>.fail
theorem Qo {F:Nat->(Nat->Int)->T (V × List Blk)} {vs:List V} {r:V × List Blk} (h:(Aea F vs).sem = some r):∃ n f,Bm vs [E4 n f] ∧ (F n f).sem = some r:=by
 unfold Aea at h
 split at h
 ·obtain ⟨n,f,h1,h2⟩:=GS h
  refine ⟨n,f,λS w cs hv=>?_,h2⟩
  obtain ⟨c,l,rfl,q1,q2⟩:=hv
  exact ⟨c,l,rfl,h1 S w c q1,q2⟩
 ·cases h
def okB (v:V):Bool:=match gB v with
 | some _=>true
 | none=>false
def edB (v:V):Bool:=match gB v with
 | some e=>e
 | none=>false
theorem Aan {v:V} (h:okB v = true):v = bV (edB v):=by
 unfold okB at h
 unfold edB
 split at h
 ·rename_i e he
  exact Rz he
 ·cases h
def VM (n:Nat) (f:Nat->Bool):V:=.sl 1 n λi=>bV (f i)
def apB {α:Type} (v:V) (F:Nat->(Nat->Bool)->T α):T α :=
 match Ym v with
 | some (n,g)=>.br (AJ n λi=>okB (g i)) (F n λi=>edB (g i)) .fail
 | none=>.fail
theorem AbQ {α:Type} {v:V} {F:Nat->(Nat->Bool)->T α} {r:α} (h:(apB v F).sem = some r) :
  ∃ n f,(∀ (S:Nat->Prop) (w:World) (c:Value),VR S w v noK c->VR S w (VM n f) noK c) ∧ (F n f).sem = some r:=by
 unfold apB at h
 split at h
 ·rename_i n g hg
  obtain ⟨h1,h2⟩:=Ad h
  have h1:=A4.1 h1
  refine ⟨n,_,λS w c hv=>?_,h2⟩
  unfold Ym at hg
  split at hg
  ·rename_i s n' g'
   split at hg
   ·rename_i hs
    simp only [Option.some.injEq,Prod.mk.injEq] at hg
    obtain ⟨rfl,rfl⟩:=hg
    have hs:s = 1:=Nat.eq_of_beq_eq_true hs
    subst hs
    obtain ⟨a,cap,e,hc,hb⟩:=hv
    refine ⟨a,cap,e,hc,hb.imp id ?_⟩
    rintro ⟨b,o,ea,hel⟩
    refine ⟨b,o,ea,λi hi=>?_⟩
    have:=hel i hi
    rw [Aan (h1 i hi)] at this
    exact this
   ·cases hg
  ·cases hg
 ·cases h
end Go.Proofs.YthlojajaenfidaaGreatDoor.Ed
