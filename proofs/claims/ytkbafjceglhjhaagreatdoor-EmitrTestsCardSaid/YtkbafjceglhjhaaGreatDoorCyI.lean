/-
  Layer 4: the parts of a cycle. No conditions.
-/
import Derived.Test.YtkbafjceglhjhaaGreatDoorCyB
import Derived.Test.YtkbafjceglhjhaaGreatDoorSyU
namespace Go.Proofs.YtkbafjceglhjhaaGreatDoor.Ed
open Go.Sy
open Int (ofNat)
def Do (p:Nat->Bool) (i k:Nat):Int:=bif decide (k<i) then ofNat (Ak p k) else 0
def AC (p:Nat->Bool) (n k:Nat):Int:=bif decide (k<n) then (bif decide (Ak p k=Ak p n) then 0 else ofNat (Ak p k)) else 0
def II (h:Nat->Int) (i:Nat) (s:Int) (k:Nat):Int:=bif decide (k=i) then s else h k
theorem CG (h:Nat->Int) (i:Nat) (s:Int):BD (λk=>iV (h k)) i (iV s)=λk=>iV (II h i s k):=by
 funext k;rw [DO,show Nat.beq k i=decide (k=i) by rw [Bool.eq_iff_iff]; simp];unfold II;cases decide (k=i) <;> rfl
theorem KF (p:Nat->Bool) (i:Nat):II (Do p i) i (ofNat (Ak p i))=Do p (i+1):=by
 funext k;unfold II Do;by_cases h:k=i
 ·subst h; simp
 ·by_cases h2:k<i
  ·have:k<i+1:=by omega
   simp [h,h2,this]
  ·have:¬ k<i+1:=by omega
   simp [h,h2,this]
theorem Mb (p:Nat->Bool) (i:Nat):II (Do p (i+1)) i 0=Do p i:=by
 funext k;unfold II Do;by_cases h:k=i
 ·subst h; simp
 ·by_cases h2:k<i
  ·have:k<i+1:=by omega
   simp [h,h2,this]
  ·have:¬ k<i+1:=by omega
   simp [h,h2,this]
def dn:Nat->Int
 | 0=>-1
 | D+1=>ofNat D
theorem Rq {D n:Nat} (h:D <= n) (hn:n <= 4611686018427387904):wr .i64 (Bz (ofNat D) 1)=dn D:=by
 cases D with
 | zero=>rfl
 | succ D =>unfold wr Bz IntKind.wrap dn;simp [IntKind.bits,IntKind.signed];omega
theorem Bc (p:Nat->Bool):∀ {i k:Nat},i <= k->Ak p i <= Ak p k
 | i,0,h=>by
  have:i=0:=by omega
  subst this;exact Nat.le_refl _
 | i,k+1,h=>by
  by_cases h2:i=k+1
  ·subst h2; exact Nat.le_refl _
  ·have:=Bc p (show i <= k by omega)
   refine Nat.le_trans this ?_;rw [show Ak p (k+1)=(match p k with | true=>Ak p k+1 | false=>Ak p k) from rfl]
   cases p k
   ·exact Nat.le_refl _
   ·exact Nat.le_succ _
theorem Ij (p:Nat->Bool) (n D:Nat) (h:D <= n) (h1:∀ k,k<D->Ak p k ≠ Ak p n) (h2:∀ k,D <= k->k<n->Ak p k=Ak p n):Do p D=AC p n:=by
 funext k;unfold Do AC;by_cases h3:k<D
 ·have h4:k<n:=by omega
  simp [h3,h4,h1 k h3]
 ·by_cases h4:k<n
  ·simp [h3,h4,h2 k (by omega) h4]
  ·simp [h3,h4]
def Nf (n:Nat) (f:Nat->E6):Lp:=⟨bmK 51 0 [0,1,5,6,13,14,15],2,bmK 51 0 [0,5,6],2,n+1⟩
def Q4 (n:Nat) (f:Nat->E6) (s:Int) (i:Nat) (h:Nat->Int) (j:Nat->V):St:=⟨jsV 51 0 j [(0,.sl 6 n (λi=>eV (f i))),(1,.fn 171 []),(5,.ref 1),(6,iV s),(13,.sl 6 n (λi=>eV (f i))),(14,nV n),(15,nV i)],[.row 3 1 0 Aa,.row 3 1 n (λk=>iV (h k))]⟩
def MA (n:Nat) (f:Nat->E6) (s:Int) (i:Nat) (h:Nat->Int):Ex×St:=(.ex 0,⟨jsV 51 0 Aa [(0,.sl 6 n (λi=>eV (f i))),(5,.ref 1),(6,iV s)],[.row 3 1 0 Aa,.row 3 1 n (λk=>iV (h k))]⟩)
noncomputable def JH (L:LT):St->T (Ex×St):=λst=>AA tab ⟨Aw tbY,L,Gl⟩ (As Tryz.f175 0) 0 st
section
variable (L:LT) (n:Nat) (f:Nat->E6) (s:Int) (i:Nat) (h:Nat->Int)  (j:Nat->V)
include L n f s i h j
theorem Alk (h0:ilt (ofNat i) (ofNat n)=false):Au (JH L) (Nf n f) (Q4 n f s i h j)=some ((.ex 0),⟨jsV 51 0 Aa [(0,.sl 6 n (λi=>eV (f i))),(5,.ref 1),(6,iV s)],[.row 3 1 0 Aa,.row 3 1 n (λk=>iV (h k))]⟩):=by
 exact Ae (ks:=[kn h0]) (by kernel_rfl)
theorem Ali (h0:ilt (ofNat i) (ofNat n)=true) (h1:Al (ile 0 (ofNat i)) (ilt (ofNat i) (ofNat n))=true) (h2:nlt i n=true) (h3:AB (f i)=true):Au (JH L) (Nf n f) (Q4 n f s i h j)=some (.nm,⟨jsV 51 0 Aa [(0,.sl 6 n (λi=>eV (f i))),(1,.fn 171 []),(5,.ref 1),(6,iV (wr .i64 (Ai s 1))),(13,.sl 6 n (λi=>eV (f i))),(14,nV n),(15,iV (wr .i64 (Ai (ofNat i) 1)))],[.row 3 1 0 Aa,.row 3 1 n (BD (λk=>iV (h k)) i (iV s))]⟩):=by
 exact Ae (ks:=[kn h0,kn h1,kn h1,kn h2,kn h3]) (by kernel_rfl)
theorem Alj (h0:ilt (ofNat i) (ofNat n)=true) (h1:Al (ile 0 (ofNat i)) (ilt (ofNat i) (ofNat n))=true) (h2:nlt i n=true) (h3:AB (f i)=false):Au (JH L) (Nf n f) (Q4 n f s i h j)=some (.nm,⟨jsV 51 0 Aa [(0,.sl 6 n (λi=>eV (f i))),(1,.fn 171 []),(5,.ref 1),(6,iV s),(13,.sl 6 n (λi=>eV (f i))),(14,nV n),(15,iV (wr .i64 (Ai (ofNat i) 1)))],[.row 3 1 0 Aa,.row 3 1 n (BD (λk=>iV (h k)) i (iV s))]⟩):=by
 exact Ae (ks:=[kn h0,kn h1,kn h1,kn h2,kn h3]) (by kernel_rfl)
end
def Ajd (n:Nat) (f:Nat->E6) :Nat->V:=lkV AK [(4,.ref 0),(10,.sl 6 n (λi=>eV (f i))),(11,nV n),(12,.ref 1)]
def GQ (n:Nat) (f:Nat->E6):Lp:=⟨bmK 51 0 [5,6,9],2,bmK 51 0 [5],2,n+1⟩
def KQ (n:Nat) (f:Nat->E6) (s d:Int) (h:Nat->Int) (j:Nat->V):St:=⟨jsV 51 0 j [(5,.ref 1),(6,iV s),(9,iV d)],[.row 3 1 0 Aa,.row 3 1 n (λk=>iV (h k))]⟩
def Ly (n:Nat) (f:Nat->E6) (s d:Int) (h:Nat->Int):Ex×St:=(.ex 2,⟨jsV 51 0 Aa [(5,.ref 1)],[.row 3 1 0 Aa,.row 3 1 n (λk=>iV (h k))]⟩)
noncomputable def HT (L:LT):St->T (Ex×St):=λst=>AA tab ⟨Aw tbY,L,Gl⟩ (As Tryz.f175 2) 2 st
section
variable (L:LT) (n:Nat) (f:Nat->E6) (s d:Int) (h:Nat->Int)  (j:Nat->V)
include L n f s d h j
theorem AkU (h0:ile 0 d=false):Au (HT L) (GQ n f) (KQ n f s d h j)=some ((.ex 2),⟨jsV 51 0 Aa [(5,.ref 1)],[.row 3 1 0 Aa,.row 3 1 n (λk=>iV (h k))]⟩):=by
 exact Ae (ks:=[kn h0,kn h0,kn h0,kn h0,kn h0,kn h0,kn h0,kF]) (by kernel_rfl)
theorem AkT (h0:ile 0 d=true) (h1:Al (ile 0 d) (ilt d (ofNat n))=true) (h2:nlt (toN d) n=true) (h3:ieq (h (toN d)) s=false):Au (HT L) (GQ n f) (KQ n f s d h j)=some ((.ex 2),⟨jsV 51 0 Aa [(5,.ref 1)],[.row 3 1 0 Aa,.row 3 1 n (λk=>iV (h k))]⟩):=by
 exact Ae (ks:=[kn h0,kn h0,kn h0,kn h1,kn h0,kn h2,kn h0,kn h0,kn h0,kn h3]) (by kernel_rfl)
theorem AkS (h0:ile 0 d=true) (h1:Al (ile 0 d) (ilt d (ofNat n))=true) (h2:nlt (toN d) n=true) (h3:ieq (h (toN d)) s=true):Au (HT L) (GQ n f) (KQ n f s d h j)=some (.nm,⟨jsV 51 0 Aa [(5,.ref 1),(6,iV s),(9,iV (wr .i64 (Bz d 1)))],[.row 3 1 0 Aa,.row 3 1 n (BD (λk=>iV (h k)) (toN d) (iV 0))]⟩):=by
 exact Ae (ks:=[kn h0,kn h0,kn h0,kn h1,kn h0,kn h2,kn h0,kn h0,kn h0,kn h3,kn h1,kn h2]) (by kernel_rfl)
end
def Ahy (n:Nat) (f:Nat->E6) (s:Int) (i:Nat) (h:Nat->Int):Nat->V:=lkU 2251766527688094 [(0,.sl 6 n (λi=>eV (f i))),(30,iV s),(31,bV (ilt 0 s)),(32,.sl 6 n (λi=>eV (f i))),(33,nV n),(34,iV (wr .i64 (Bz (ofNat n) 1)))]
theorem AjK (L:LT) (p0:PT) (n:Nat) (f:Nat->E6) (s:Int) (i:Nat) (h:Nat->Int) (h0:EX 8 (ofNat n) (ofNat n)=true) (h1:ilt 0 s=false) (hp0:p0 (JH (onP 0 p0 (MA n f s i h) L)) (Q4 n f 0 0 (λ_=>0) (Ajd n f ))=true):(A0 (Aj tab ⟨Aw tbY,onP 0 p0 (MA n f s i h) L,Gl⟩ Tryz.f175 [AI n f,.fn 171 []] [])).sem=some ((.ref 0),[.row 3 1 n (λk=>iV (h k))]):=by
 exact Ae (ks:=[kn h0,kn hp0,kn h1]) (by kernel_rfl)
theorem AjL (L:LT) (p0:PT) (p2:PT) (n:Nat) (f:Nat->E6) (s d:Int) (i:Nat) (h g:Nat->Int) (h0:EX 8 (ofNat n) (ofNat n)=true) (h1:ilt 0 s=true) (hp0:p0 (JH (onP 0 p0 (MA n f s i h) (onP 2 p2 (Ly n f s d g) L))) (Q4 n f 0 0 (λ_=>0) (Ajd n f ))=true) (hp2:p2 (HT (onP 0 p0 (MA n f s i h) (onP 2 p2 (Ly n f s d g) L))) (KQ n f s (wr .i64 (Bz (ofNat n) 1)) h (Ahy n f s i h))=true):(A0 (Aj tab ⟨Aw tbY,onP 0 p0 (MA n f s i h) (onP 2 p2 (Ly n f s d g) L),Gl⟩ Tryz.f175 [AI n f,.fn 171 []] [])).sem=some ((.ref 0),[.row 3 1 n (λk=>iV (g k))]):=by
 exact Ae (ks:=[kn h0,kn hp0,kn h1,kn hp2]) (by kernel_rfl)
def Ng (n:Nat) (f:Nat->E6):Lp:=⟨bmK 51 0 [0,1,5,6,13,14,15],2,bmK 51 0 [0,5,6],2,n+1⟩
def Q5 (n:Nat) (f:Nat->E6) (s:Int) (i:Nat) (h:Nat->Int) (j:Nat->V):St:=⟨jsV 51 0 j [(0,.sl 6 n (λi=>eV (f i))),(1,.fn 172 []),(5,.ref 1),(6,iV s),(13,.sl 6 n (λi=>eV (f i))),(14,nV n),(15,nV i)],[.row 3 1 0 Aa,.row 3 1 n (λk=>iV (h k))]⟩
def MB (n:Nat) (f:Nat->E6) (s:Int) (i:Nat) (h:Nat->Int):Ex×St:=(.ex 0,⟨jsV 51 0 Aa [(0,.sl 6 n (λi=>eV (f i))),(5,.ref 1),(6,iV s)],[.row 3 1 0 Aa,.row 3 1 n (λk=>iV (h k))]⟩)
noncomputable def JI (L:LT):St->T (Ex×St):=λst=>AA tab ⟨Aw tbY,L,Gl⟩ (As Tryz.f175 0) 0 st
section
variable (L:LT) (n:Nat) (f:Nat->E6) (s:Int) (i:Nat) (h:Nat->Int)  (j:Nat->V)
include L n f s i h j
theorem Alo (h0:ilt (ofNat i) (ofNat n)=false):Au (JI L) (Ng n f) (Q5 n f s i h j)=some ((.ex 0),⟨jsV 51 0 Aa [(0,.sl 6 n (λi=>eV (f i))),(5,.ref 1),(6,iV s)],[.row 3 1 0 Aa,.row 3 1 n (λk=>iV (h k))]⟩):=by
 exact Ae (ks:=[kn h0]) (by kernel_rfl)
theorem Alm (h0:ilt (ofNat i) (ofNat n)=true) (h1:Al (ile 0 (ofNat i)) (ilt (ofNat i) (ofNat n))=true) (h2:nlt i n=true) (h3:AH (f i)=true):Au (JI L) (Ng n f) (Q5 n f s i h j)=some (.nm,⟨jsV 51 0 Aa [(0,.sl 6 n (λi=>eV (f i))),(1,.fn 172 []),(5,.ref 1),(6,iV (wr .i64 (Ai s 1))),(13,.sl 6 n (λi=>eV (f i))),(14,nV n),(15,iV (wr .i64 (Ai (ofNat i) 1)))],[.row 3 1 0 Aa,.row 3 1 n (BD (λk=>iV (h k)) i (iV s))]⟩):=by
 exact Ae (ks:=[kn h0,kn h1,kn h1,kn h2,kn h3]) (by kernel_rfl)
theorem Aln (h0:ilt (ofNat i) (ofNat n)=true) (h1:Al (ile 0 (ofNat i)) (ilt (ofNat i) (ofNat n))=true) (h2:nlt i n=true) (h3:AH (f i)=false):Au (JI L) (Ng n f) (Q5 n f s i h j)=some (.nm,⟨jsV 51 0 Aa [(0,.sl 6 n (λi=>eV (f i))),(1,.fn 172 []),(5,.ref 1),(6,iV s),(13,.sl 6 n (λi=>eV (f i))),(14,nV n),(15,iV (wr .i64 (Ai (ofNat i) 1)))],[.row 3 1 0 Aa,.row 3 1 n (BD (λk=>iV (h k)) i (iV s))]⟩):=by
 exact Ae (ks:=[kn h0,kn h1,kn h1,kn h2,kn h3]) (by kernel_rfl)
end
def Aje (n:Nat) (f:Nat->E6) :Nat->V:=lkV AK [(4,.ref 0),(10,.sl 6 n (λi=>eV (f i))),(11,nV n),(12,.ref 1)]
def GR (n:Nat) (f:Nat->E6):Lp:=⟨bmK 51 0 [5,6,9],2,bmK 51 0 [5],2,n+1⟩
def KR (n:Nat) (f:Nat->E6) (s d:Int) (h:Nat->Int) (j:Nat->V):St:=⟨jsV 51 0 j [(5,.ref 1),(6,iV s),(9,iV d)],[.row 3 1 0 Aa,.row 3 1 n (λk=>iV (h k))]⟩
def Lz (n:Nat) (f:Nat->E6) (s d:Int) (h:Nat->Int):Ex×St:=(.ex 2,⟨jsV 51 0 Aa [(5,.ref 1)],[.row 3 1 0 Aa,.row 3 1 n (λk=>iV (h k))]⟩)
noncomputable def HU (L:LT):St->T (Ex×St):=λst=>AA tab ⟨Aw tbY,L,Gl⟩ (As Tryz.f175 2) 2 st
section
variable (L:LT) (n:Nat) (f:Nat->E6) (s d:Int) (h:Nat->Int)  (j:Nat->V)
include L n f s d h j
theorem AkX (h0:ile 0 d=false):Au (HU L) (GR n f) (KR n f s d h j)=some ((.ex 2),⟨jsV 51 0 Aa [(5,.ref 1)],[.row 3 1 0 Aa,.row 3 1 n (λk=>iV (h k))]⟩):=by
 exact Ae (ks:=[kn h0,kn h0,kn h0,kn h0,kn h0,kn h0,kn h0,kF]) (by kernel_rfl)
theorem AkW (h0:ile 0 d=true) (h1:Al (ile 0 d) (ilt d (ofNat n))=true) (h2:nlt (toN d) n=true) (h3:ieq (h (toN d)) s=false):Au (HU L) (GR n f) (KR n f s d h j)=some ((.ex 2),⟨jsV 51 0 Aa [(5,.ref 1)],[.row 3 1 0 Aa,.row 3 1 n (λk=>iV (h k))]⟩):=by
 exact Ae (ks:=[kn h0,kn h0,kn h0,kn h1,kn h0,kn h2,kn h0,kn h0,kn h0,kn h3]) (by kernel_rfl)
theorem AkV (h0:ile 0 d=true) (h1:Al (ile 0 d) (ilt d (ofNat n))=true) (h2:nlt (toN d) n=true) (h3:ieq (h (toN d)) s=true):Au (HU L) (GR n f) (KR n f s d h j)=some (.nm,⟨jsV 51 0 Aa [(5,.ref 1),(6,iV s),(9,iV (wr .i64 (Bz d 1)))],[.row 3 1 0 Aa,.row 3 1 n (BD (λk=>iV (h k)) (toN d) (iV 0))]⟩):=by
 exact Ae (ks:=[kn h0,kn h0,kn h0,kn h1,kn h0,kn h2,kn h0,kn h0,kn h0,kn h3,kn h1,kn h2]) (by kernel_rfl)
end
def Ahz (n:Nat) (f:Nat->E6) (s:Int) (i:Nat) (h:Nat->Int):Nat->V:=lkU 2251766527688094 [(0,.sl 6 n (λi=>eV (f i))),(30,iV s),(31,bV (ilt 0 s)),(32,.sl 6 n (λi=>eV (f i))),(33,nV n),(34,iV (wr .i64 (Bz (ofNat n) 1)))]
theorem AjM (L:LT) (p0:PT) (n:Nat) (f:Nat->E6) (s:Int) (i:Nat) (h:Nat->Int) (h0:EX 8 (ofNat n) (ofNat n)=true) (h1:ilt 0 s=false) (hp0:p0 (JI (onP 0 p0 (MB n f s i h) L)) (Q5 n f 0 0 (λ_=>0) (Aje n f ))=true):(A0 (Aj tab ⟨Aw tbY,onP 0 p0 (MB n f s i h) L,Gl⟩ Tryz.f175 [AI n f,.fn 172 []] [])).sem=some ((.ref 0),[.row 3 1 n (λk=>iV (h k))]):=by
 exact Ae (ks:=[kn h0,kn hp0,kn h1]) (by kernel_rfl)
theorem AjN (L:LT) (p0:PT) (p2:PT) (n:Nat) (f:Nat->E6) (s d:Int) (i:Nat) (h g:Nat->Int) (h0:EX 8 (ofNat n) (ofNat n)=true) (h1:ilt 0 s=true) (hp0:p0 (JI (onP 0 p0 (MB n f s i h) (onP 2 p2 (Lz n f s d g) L))) (Q5 n f 0 0 (λ_=>0) (Aje n f ))=true) (hp2:p2 (HU (onP 0 p0 (MB n f s i h) (onP 2 p2 (Lz n f s d g) L))) (KR n f s (wr .i64 (Bz (ofNat n) 1)) h (Ahz n f s i h))=true):(A0 (Aj tab ⟨Aw tbY,onP 0 p0 (MB n f s i h) (onP 2 p2 (Lz n f s d g) L),Gl⟩ Tryz.f175 [AI n f,.fn 172 []] [])).sem=some ((.ref 0),[.row 3 1 n (λk=>iV (g k))]):=by
 exact Ae (ks:=[kn h0,kn hp0,kn h1,kn hp2]) (by kernel_rfl)
theorem W7 (L:LT) (n:Nat) (f:Nat->E6) (hn:n <= 4611686018427387904):∀ (e i:Nat) (j:Nat->V) (q:Nat),n=i+e->e<q ->
  (Av (JH L) (Nf n f) q (Q4 n f (ofNat (Ak (λk=>AB (f k)) i)) i (Do (λk=>AB (f k)) i) j)).sem=some (MA n f (ofNat (Ak (λk=>AB (f k)) n)) n (Do (λk=>AB (f k)) n))
 | 0,i,j,q+1,h,_=>by
  have:n=i:=by omega
  subst this;exact Af (Alk L n f _ _ _ j (A1 (Nat.le_refl _)))
 | e+1,i,j,q+1,h,h2=>by
  have hc:=B2 (λk=>AB (f k)) i;have hl:ilt (ofNat i) (ofNat n)=true:=ofNat_lt (by omega);have hb:Al (ile 0 (ofNat i)) (ilt (ofNat i) (ofNat n))=true:=by rw [Cf,hl]; rfl
  have hk:nlt i n=true:=by simpa [nlt] using (show i<n by omega)
  cases hp:AB (f i) with
  | true =>
   rw [Af (Ali L n f _ i _ j hl hb hk hp),AT,A3 (show i<n by omega) hn,A3 (show Ak (λk=>AB (f k)) i<n by omega) hn,
    show Ak (λk=>AB (f k)) i+1=Ak (λk=>AB (f k)) (i+1) by rw [Ak,hp],CG,KF]
   exact W7 L n f hn e (i+1) Aa q (by omega) (by omega)
  | false =>
   rw [Af (Alj L n f _ i _ j hl hb hk hp),AT,A3 (show i<n by omega) hn,CG,KF,
    show Ak (λk=>AB (f k)) i=Ak (λk=>AB (f k)) (i+1) by rw [Ak,hp]]
   exact W7 L n f hn e (i+1) Aa q (by omega) (by omega)
theorem AbQ (L:LT) (n:Nat) (f:Nat->E6) (hn:n <= 4611686018427387904):∀ (D:Nat) (j:Nat->V) (q:Nat),D <= n->D<q->(∀ k,D <= k->k<n->Ak (λk=>AB (f k)) k=Ak (λk=>AB (f k)) n) ->
  (Av (HT L) (GQ n f) q (KQ n f (ofNat (Ak (λk=>AB (f k)) n)) (dn D) (Do (λk=>AB (f k)) D) j)).sem=some (Ly n f 0 0 (AC (λk=>AB (f k)) n))
 | 0,j,q+1,h,_,hb=>by
  rw [<- Ij (λk=>AB (f k)) n 0 h (λk hk=>absurd hk (Nat.not_lt_zero _)) hb];exact Af (AkU L n f _ _ _ j rfl)
 | D+1,j,q+1,h,h2,hb=>by
  have hl:ilt (ofNat D) (ofNat n)=true:=ofNat_lt (by omega);have hb1:Al (ile 0 (ofNat D)) (ilt (ofNat D) (ofNat n))=true:=by rw [Cf,hl]; rfl
  have hk:nlt D n=true:=by simpa [nlt] using (show D<n by omega)
  have hr:Do (λk=>AB (f k)) (D+1) D=ofNat (Ak (λk=>AB (f k)) D):=by simp [Do]
  cases hp:ieq (Do (λk=>AB (f k)) (D+1) D) (ofNat (Ak (λk=>AB (f k)) n)) with
  | true =>
   have he:Ak (λk=>AB (f k)) D=Ak (λk=>AB (f k)) n:=by
    rw [hr] at hp;have h7:((Ak (λk=>AB (f k)) D:Nat):Int)=((Ak (λk=>AB (f k)) n:Nat):Int):=by simpa [ieq] using hp
    omega
   rw [show dn (D+1)=ofNat D from rfl,Af (AkS L n f _ _ _ j (Cf D) hb1 hk hp),AT,Rq (show D <= n by omega) hn,CG,show toN (ofNat D)=D from rfl,Mb];exact AbQ L n f hn D Aa q (by omega) (by omega) λk h3 h4=>by
    by_cases h5:k=D
    ·subst h5; exact he
    ·exact hb k (by omega) h4
  | false =>
   have he:Ak (λk=>AB (f k)) D ≠ Ak (λk=>AB (f k)) n:=λe=>by rw [hr,e] at hp; simp [ieq] at hp
   rw [<- Ij (λk=>AB (f k)) n (D+1) h (λk hk e=>he (by have:=Bc (λk=>AB (f k)) (show k <= D by omega); have:=Bc (λk=>AB (f k)) (show D <= n by omega); omega)) hb];exact Af (AkT L n f _ _ _ j (Cf D) hb1 hk hp)
theorem W8 (L:LT) (n:Nat) (f:Nat->E6) (hn:n <= 4611686018427387904):∀ (e i:Nat) (j:Nat->V) (q:Nat),n=i+e->e<q ->
  (Av (JI L) (Ng n f) q (Q5 n f (ofNat (Ak (λk=>AH (f k)) i)) i (Do (λk=>AH (f k)) i) j)).sem=some (MB n f (ofNat (Ak (λk=>AH (f k)) n)) n (Do (λk=>AH (f k)) n))
 | 0,i,j,q+1,h,_=>by
  have:n=i:=by omega
  subst this;exact Af (Alo L n f _ _ _ j (A1 (Nat.le_refl _)))
 | e+1,i,j,q+1,h,h2=>by
  have hc:=B2 (λk=>AH (f k)) i;have hl:ilt (ofNat i) (ofNat n)=true:=ofNat_lt (by omega);have hb:Al (ile 0 (ofNat i)) (ilt (ofNat i) (ofNat n))=true:=by rw [Cf,hl]; rfl
  have hk:nlt i n=true:=by simpa [nlt] using (show i<n by omega)
  cases hp:AH (f i) with
  | true =>
   rw [Af (Alm L n f _ i _ j hl hb hk hp),AT,A3 (show i<n by omega) hn,A3 (show Ak (λk=>AH (f k)) i<n by omega) hn,
    show Ak (λk=>AH (f k)) i+1=Ak (λk=>AH (f k)) (i+1) by rw [Ak,hp],CG,KF]
   exact W8 L n f hn e (i+1) Aa q (by omega) (by omega)
  | false =>
   rw [Af (Aln L n f _ i _ j hl hb hk hp),AT,A3 (show i<n by omega) hn,CG,KF,
    show Ak (λk=>AH (f k)) i=Ak (λk=>AH (f k)) (i+1) by rw [Ak,hp]]
   exact W8 L n f hn e (i+1) Aa q (by omega) (by omega)
theorem AbR (L:LT) (n:Nat) (f:Nat->E6) (hn:n <= 4611686018427387904):∀ (D:Nat) (j:Nat->V) (q:Nat),D <= n->D<q->(∀ k,D <= k->k<n->Ak (λk=>AH (f k)) k=Ak (λk=>AH (f k)) n) ->
  (Av (HU L) (GR n f) q (KR n f (ofNat (Ak (λk=>AH (f k)) n)) (dn D) (Do (λk=>AH (f k)) D) j)).sem=some (Lz n f 0 0 (AC (λk=>AH (f k)) n))
 | 0,j,q+1,h,_,hb=>by
  rw [<- Ij (λk=>AH (f k)) n 0 h (λk hk=>absurd hk (Nat.not_lt_zero _)) hb];exact Af (AkX L n f _ _ _ j rfl)
 | D+1,j,q+1,h,h2,hb=>by
  have hl:ilt (ofNat D) (ofNat n)=true:=ofNat_lt (by omega);have hb1:Al (ile 0 (ofNat D)) (ilt (ofNat D) (ofNat n))=true:=by rw [Cf,hl]; rfl
  have hk:nlt D n=true:=by simpa [nlt] using (show D<n by omega)
  have hr:Do (λk=>AH (f k)) (D+1) D=ofNat (Ak (λk=>AH (f k)) D):=by simp [Do]
  cases hp:ieq (Do (λk=>AH (f k)) (D+1) D) (ofNat (Ak (λk=>AH (f k)) n)) with
  | true =>
   have he:Ak (λk=>AH (f k)) D=Ak (λk=>AH (f k)) n:=by
    rw [hr] at hp;have h7:((Ak (λk=>AH (f k)) D:Nat):Int)=((Ak (λk=>AH (f k)) n:Nat):Int):=by simpa [ieq] using hp
    omega
   rw [show dn (D+1)=ofNat D from rfl,Af (AkV L n f _ _ _ j (Cf D) hb1 hk hp),AT,Rq (show D <= n by omega) hn,CG,show toN (ofNat D)=D from rfl,Mb];exact AbR L n f hn D Aa q (by omega) (by omega) λk h3 h4=>by
    by_cases h5:k=D
    ·subst h5; exact he
    ·exact hb k (by omega) h4
  | false =>
   have he:Ak (λk=>AH (f k)) D ≠ Ak (λk=>AH (f k)) n:=λe=>by rw [hr,e] at hp; simp [ieq] at hp
   rw [<- Ij (λk=>AH (f k)) n (D+1) h (λk hk e=>he (by have:=Bc (λk=>AH (f k)) (show k <= D by omega); have:=Bc (λk=>AH (f k)) (show D <= n by omega); omega)) hb];exact Af (AkW L n f _ _ _ j (Cf D) hb1 hk hp)
def WM:List V->A5
 | [v,.fn g []]=>apL v λn f=>.br (EX 8 (ofNat n) (ofNat n)) (match Nat.beq g 171,Nat.beq g 172 with
  | true,_=>.leaf (.ref 0,[.row 3 1 n λk=>iV (AC (λk=>AB (f k)) n k)])
  | false,true=>.leaf (.ref 0,[.row 3 1 n λk=>iV (AC (λk=>AH (f k)) n k)])
  | false,false=>.fail) .fail
 | _=>.fail
theorem WF (p:Nat->Bool):Do p 0=λ_=>0:=by
 funext k;simp [Do]
theorem Sv (p:Nat->Bool) (n:Nat) (h:Ak p n=0):Do p n=AC p n:=by
 funext k;unfold Do AC;by_cases h3:k<n
 ·have:=Bc p (show k <= n by omega)
  have h4:Ak p k=0:=by omega
  simp [h3,h,h4]
 ·simp [h3]
theorem Afm (n:Nat) (f:Nat->E6) (hm:EX 8 (ofNat n) (ofNat n)=true) :
  (A0 (Aj tab (AO Gl tbY [(0,Nf n f),(2,GQ n f)]) Tryz.f175 [AI n f,.fn 171 []] [])).sem=some (.ref 0,[.row 3 1 n λk=>iV (AC (λk=>AB (f k)) n k)]):=by
 have hn:n <= 4611686018427387904:=by
  simp only [EX,Bool.and_eq_true,decide_eq_true_eq] at hm;have:=hm.2.2.1;simp only [Int.ofNat_eq_natCast] at this;omega
 have hL:=Bb [(0,Nf n f),(2,GQ n f)];have h0:=λL j=>W7 L n f hn n 0 j (n+1) (by omega) (by omega);have h2:=λL j=>AbQ L n f hn n j (n+1) (Nat.le_refl _) (by omega) (λk h1 h2=>by omega);rw [WF] at h0;rw [<- Rq (Nat.le_refl n) hn] at h2;cases hs:ilt 0 (ofNat (Ak (λk=>AB (f k)) n)) with
 | true=>exact AW (AX (AX hL hL) hL) _ (AjL _ _ _ n f _ 0 n (Do (λk=>AB (f k)) n) (AC (λk=>AB (f k)) n) hm hs (A4 (h0 _ _)) (A4 (h2 _ _)))
 | false =>rw [<- Sv (λk=>AB (f k)) n (by simpa [ilt] using hs)];exact AW (AX hL hL) _ (AjK _ _ n f _ n _ hm hs (A4 (h0 _ _)))
theorem Afn (n:Nat) (f:Nat->E6) (hm:EX 8 (ofNat n) (ofNat n)=true) :
  (A0 (Aj tab (AO Gl tbY [(0,Ng n f),(2,GR n f)]) Tryz.f175 [AI n f,.fn 172 []] [])).sem=some (.ref 0,[.row 3 1 n λk=>iV (AC (λk=>AH (f k)) n k)]):=by
 have hn:n <= 4611686018427387904:=by
  simp only [EX,Bool.and_eq_true,decide_eq_true_eq] at hm;have:=hm.2.2.1;simp only [Int.ofNat_eq_natCast] at this;omega
 have hL:=Bb [(0,Ng n f),(2,GR n f)];have h0:=λL j=>W8 L n f hn n 0 j (n+1) (by omega) (by omega);have h2:=λL j=>AbR L n f hn n j (n+1) (Nat.le_refl _) (by omega) (λk h1 h2=>by omega);rw [WF] at h0;rw [<- Rq (Nat.le_refl n) hn] at h2;cases hs:ilt 0 (ofNat (Ak (λk=>AH (f k)) n)) with
 | true=>exact AW (AX (AX hL hL) hL) _ (AjN _ _ _ n f _ 0 n (Do (λk=>AH (f k)) n) (AC (λk=>AH (f k)) n) hm hs (A4 (h0 _ _)) (A4 (h2 _ _)))
 | false =>rw [<- Sv (λk=>AH (f k)) n (by simpa [ilt] using hs)];exact AW (AX hL hL) _ (AjM _ _ n f _ n _ hm hs (A4 (h0 _ _)))
theorem p92:Ap Tryz.prog Gl 175 WM:=by
 refine Ah A2 mixed Tryz.func175 (by kernel_rfl) (by kernel_rfl) λvs v h' h=>?_;unfold WM at h;split at h
 ·rename_i u g
  obtain ⟨n,f,ha,h1⟩:=CC h;obtain ⟨hm,hq⟩:=Ac h1;clear h h1;have hA:Ba [u,.fn g []] [AI n f,.fn g []]:=λS w cs hv=>by
   obtain ⟨c,l,rfl,q1,q2⟩:=hv;exact ⟨c,l,rfl,ha S w c q1,q2⟩
  split at hq
  ·rename_i h1
   have h1:=Nat.eq_of_beq_eq_true h1;subst h1;have:=Ab hq;simp only [Prod.mk.injEq] at this;obtain ⟨rfl,rfl⟩:=this;have hx:=Bh Ob [(0,Nf n f),(2,GQ n f)];exact ⟨_,AO Gl tbY [(0,Nf n f),(2,GQ n f)],_,hA,rfl,hx.1,hx.2,Afm n f hm,Am.refl _⟩
  ·rename_i h1
   have h1:=Nat.eq_of_beq_eq_true h1;subst h1;have:=Ab hq;simp only [Prod.mk.injEq] at this;obtain ⟨rfl,rfl⟩:=this;have hx:=Bh Ob [(0,Ng n f),(2,GR n f)];exact ⟨_,AO Gl tbY [(0,Ng n f),(2,GR n f)],_,hA,rfl,hx.1,hx.2,Afn n f hm,Am.refl _⟩
  ·cases hq
 ·cases h
end Go.Proofs.YtkbafjceglhjhaaGreatDoor.Ed
namespace Go.Proofs.YtkbafjceglhjhaaGreatDoor.Ed
open Go.Sy
end Go.Proofs.YtkbafjceglhjhaaGreatDoor.Ed
namespace Go.Proofs.YtkbafjceglhjhaaGreatDoor.Ed
open Go.Sy
def okI (v:V):Bool:=match gI v with
 | some _=>true
 | none=>false
def edI (v:V):Int:=match gI v with
 | some e=>e
 | none=>0
theorem OD {v:V} (h:okI v=true):v=iV (edI v):=by
 unfold okI at h;unfold edI;split at h
 ·rename_i e he
  exact GV he
 ·cases h
def F2 (n:Nat) (f:Nat->Int):V:=.sl 1 n λi=>iV (f i)
def Aa5:V->Option (Nat×(Nat->V))
 | .sl s n g=>match Nat.beq s 1 with
  | true=>some (n,g)
  | false=>none
 | _=>none
def apI {α:Type} (v:V) (F:Nat->(Nat->Int)->T α):T α :=
 match Aa5 v with
 | some (n,g)=>.br (AV n λi=>okI (g i)) (F n λi=>edI (g i)) .fail
 | none=>.fail
theorem El {α:Type} {v:V} {F:Nat->(Nat->Int)->T α} {r:α} (h:(apI v F).sem=some r) :
  ∃ n f,(∀ (S:Nat->Prop) (w:World) (c:Value),VR S w v noK c->VR S w (F2 n f) noK c)∧(F n f).sem=some r:=by
 unfold apI at h;split at h
 ·rename_i n g hg
  obtain ⟨h1,h2⟩:=Ac h;have h1:=A8.1 h1;refine ⟨n,_,λS w c hv=>?_,h2⟩;unfold Aa5 at hg;split at hg
  ·rename_i s n' g'
   split at hg
   ·rename_i hs
    simp only [Option.some.injEq,Prod.mk.injEq] at hg;obtain ⟨rfl,rfl⟩:=hg;have hs:s=1:=Nat.eq_of_beq_eq_true hs;subst hs;obtain ⟨a,cap,e,hc,hb⟩:=hv;refine ⟨a,cap,e,hc,hb.imp id ?_⟩
    rintro ⟨b,o,ea,hel⟩
    refine ⟨b,o,ea,λi hi=>?_⟩;have:=hel i hi;rw [OD (h1 i hi)] at this;exact this
   ·cases hg
  ·cases hg
 ·cases h
def apI2 (F:Nat->(Nat->Int)->Nat->(Nat->Int)->A5):List V->A5
 | [v,u]=>apI v λn f=>apI u λm g=>F n f m g
 | _=>.fail
def AhU (F:Nat->(Nat->Int)->A5):List V->A5
 | [v]=>apI v F
 | _=>.fail
theorem RA {F:Nat->(Nat->Int)->A5} {vs:List V} {r:V×List Blk} (h:(AhU F vs).sem=some r):∃ n f,Ba vs [F2 n f]∧(F n f).sem=some r:=by
 unfold AhU at h;split at h
 ·obtain ⟨n,f,h1,h2⟩:=El h
  refine ⟨n,f,λS w cs hv=>?_,h2⟩;obtain ⟨c,l,rfl,q1,q2⟩:=hv;exact ⟨c,l,rfl,h1 S w c q1,q2⟩
 ·cases h
def okB (v:V):Bool:=match gB v with
 | some _=>true
 | none=>false
def edB (v:V):Bool:=match gB v with
 | some e=>e
 | none=>false
theorem Ac2 {v:V} (h:okB v=true):v=bV (edB v):=by
 unfold okB at h;unfold edB;split at h
 ·rename_i e he
  exact Td he
 ·cases h
def XD (n:Nat) (f:Nat->Bool):V:=.sl 1 n λi=>bV (f i)
def apB {α:Type} (v:V) (F:Nat->(Nat->Bool)->T α):T α :=
 match Aa5 v with
 | some (n,g)=>.br (AV n λi=>okB (g i)) (F n λi=>edB (g i)) .fail
 | none=>.fail
theorem AeI {α:Type} {v:V} {F:Nat->(Nat->Bool)->T α} {r:α} (h:(apB v F).sem=some r) :
  ∃ n f,(∀ (S:Nat->Prop) (w:World) (c:Value),VR S w v noK c->VR S w (XD n f) noK c)∧(F n f).sem=some r:=by
 unfold apB at h;split at h
 ·rename_i n g hg
  obtain ⟨h1,h2⟩:=Ac h;have h1:=A8.1 h1;refine ⟨n,_,λS w c hv=>?_,h2⟩;unfold Aa5 at hg;split at hg
  ·rename_i s n' g'
   split at hg
   ·rename_i hs
    simp only [Option.some.injEq,Prod.mk.injEq] at hg;obtain ⟨rfl,rfl⟩:=hg;have hs:s=1:=Nat.eq_of_beq_eq_true hs;subst hs;obtain ⟨a,cap,e,hc,hb⟩:=hv;refine ⟨a,cap,e,hc,hb.imp id ?_⟩
    rintro ⟨b,o,ea,hel⟩
    refine ⟨b,o,ea,λi hi=>?_⟩;have:=hel i hi;rw [Ac2 (h1 i hi)] at this;exact this
   ·cases hg
  ·cases hg
 ·cases h
end Go.Proofs.YtkbafjceglhjhaaGreatDoor.Ed
