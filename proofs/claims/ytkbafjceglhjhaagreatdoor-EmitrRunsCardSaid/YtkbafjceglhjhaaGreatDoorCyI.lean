/-
  Layer 4: the parts of a cycle. No conditions.
-/
import Derived.Test.YtkbafjceglhjhaaGreatDoorCyB
import Derived.Test.YtkbafjceglhjhaaGreatDoorSyS
namespace Go.Proofs.YtkbafjceglhjhaaGreatDoor.Ed
open Go.Sy
open Int (ofNat)
def Dq (p:Nat->Bool) (i k:Nat):Int:=bif decide (k<i) then ofNat (Al p k) else 0
def A8 (p:Nat->Bool) (n k:Nat):Int:=bif decide (k<n) then (bif decide (Al p k=Al p n) then 0 else ofNat (Al p k)) else 0
def I8 (h:Nat->Int) (i:Nat) (s:Int) (k:Nat):Int:=bif decide (k=i) then s else h k
theorem CN (h:Nat->Int) (i:Nat) (s:Int):B1 (λk=>iV (h k)) i (iV s)=λk=>iV (I8 h i s k):=by
 funext k;rw [EG,show Nat.beq k i=decide (k=i) by rw [Bool.eq_iff_iff]; simp];unfold I8;cases decide (k=i) <;> rfl
theorem KN (p:Nat->Bool) (i:Nat):I8 (Dq p i) i (ofNat (Al p i))=Dq p (i+1):=by
 funext k;unfold I8 Dq;by_cases h:k=i
 ·subst h; simp
 ·by_cases h2:k<i
  ·have:k<i+1:=by omega
   simp [h,h2,this]
  ·have:¬ k<i+1:=by omega
   simp [h,h2,this]
theorem Mi (p:Nat->Bool) (i:Nat):I8 (Dq p (i+1)) i 0=Dq p i:=by
 funext k;unfold I8 Dq;by_cases h:k=i
 ·subst h; simp
 ·by_cases h2:k<i
  ·have:k<i+1:=by omega
   simp [h,h2,this]
  ·have:¬ k<i+1:=by omega
   simp [h,h2,this]
def dn:Nat->Int
 | 0=>-1
 | D+1=>ofNat D
theorem Rp {D n:Nat} (h:D <= n) (hn:n <= 4611686018427387904):wr .i64 (By (ofNat D) 1)=dn D:=by
 cases D with
 | zero=>rfl
 | succ D =>unfold wr By IntKind.wrap dn;simp [IntKind.bits,IntKind.signed];omega
theorem Ba (p:Nat->Bool):∀ {i k:Nat},i <= k->Al p i <= Al p k
 | i,0,h=>by
  have:i=0:=by omega
  subst this;exact Nat.le_refl _
 | i,k+1,h=>by
  by_cases h2:i=k+1
  ·subst h2; exact Nat.le_refl _
  ·have:=Ba p (show i <= k by omega)
   refine Nat.le_trans this ?_;rw [show Al p (k+1)=(match p k with | true=>Al p k+1 | false=>Al p k) from rfl]
   cases p k
   ·exact Nat.le_refl _
   ·exact Nat.le_succ _
theorem Ic (p:Nat->Bool) (n D:Nat) (h:D <= n) (h1:∀ k,k<D->Al p k ≠ Al p n) (h2:∀ k,D <= k->k<n->Al p k=Al p n):Dq p D=A8 p n:=by
 funext k;unfold Dq A8;by_cases h3:k<D
 ·have h4:k<n:=by omega
  simp [h3,h4,h1 k h3]
 ·by_cases h4:k<n
  ·simp [h3,h4,h2 k (by omega) h4]
  ·simp [h3,h4]
def Nm (n:Nat) (f:Nat->E6):Lp:=⟨bmK 51 0 [0,1,5,6,13,14,15],2,bmK 51 0 [0,5,6],2,n+1⟩
def Q3 (n:Nat) (f:Nat->E6) (s:Int) (i:Nat) (h:Nat->Int) (j:Nat->V):St:=⟨jsV 51 0 j [(0,.sl 6 n (λi=>eV (f i))),(1,.fn 171 []),(5,.ref 1),(6,iV s),(13,.sl 6 n (λi=>eV (f i))),(14,nV n),(15,nV i)],[.row 3 1 0 Ab,.row 3 1 n (λk=>iV (h k))]⟩
def MF (n:Nat) (f:Nat->E6) (s:Int) (i:Nat) (h:Nat->Int):Ex×St:=(.ex 0,⟨jsV 51 0 Ab [(0,.sl 6 n (λi=>eV (f i))),(5,.ref 1),(6,iV s)],[.row 3 1 0 Ab,.row 3 1 n (λk=>iV (h k))]⟩)
noncomputable def JM (L:LT):St->T (Ex×St):=λst=>AK tab ⟨A2 tbY,L,Gl⟩ (A3 Tryz.f175 0) 0 st
section
variable (L:LT) (n:Nat) (f:Nat->E6) (s:Int) (i:Nat) (h:Nat->Int)  (j:Nat->V)
include L n f s i h j
theorem Akz (h0:ilt (ofNat i) (ofNat n)=false):A1 (JM L) (Nm n f) (Q3 n f s i h j)=some ((.ex 0),⟨jsV 51 0 Ab [(0,.sl 6 n (λi=>eV (f i))),(5,.ref 1),(6,iV s)],[.row 3 1 0 Ab,.row 3 1 n (λk=>iV (h k))]⟩):=by
 exact Af (ks:=[kn h0]) (by kernel_rfl)
theorem Akx (h0:ilt (ofNat i) (ofNat n)=true) (h1:Ak (ile 0 (ofNat i)) (ilt (ofNat i) (ofNat n))=true) (h2:nlt i n=true) (h3:A9 (f i)=true):A1 (JM L) (Nm n f) (Q3 n f s i h j)=some (.nm,⟨jsV 51 0 Ab [(0,.sl 6 n (λi=>eV (f i))),(1,.fn 171 []),(5,.ref 1),(6,iV (wr .i64 (Ai s 1))),(13,.sl 6 n (λi=>eV (f i))),(14,nV n),(15,iV (wr .i64 (Ai (ofNat i) 1)))],[.row 3 1 0 Ab,.row 3 1 n (B1 (λk=>iV (h k)) i (iV s))]⟩):=by
 exact Af (ks:=[kn h0,kn h1,kn h1,kn h2,kn h3]) (by kernel_rfl)
theorem Aky (h0:ilt (ofNat i) (ofNat n)=true) (h1:Ak (ile 0 (ofNat i)) (ilt (ofNat i) (ofNat n))=true) (h2:nlt i n=true) (h3:A9 (f i)=false):A1 (JM L) (Nm n f) (Q3 n f s i h j)=some (.nm,⟨jsV 51 0 Ab [(0,.sl 6 n (λi=>eV (f i))),(1,.fn 171 []),(5,.ref 1),(6,iV s),(13,.sl 6 n (λi=>eV (f i))),(14,nV n),(15,iV (wr .i64 (Ai (ofNat i) 1)))],[.row 3 1 0 Ab,.row 3 1 n (B1 (λk=>iV (h k)) i (iV s))]⟩):=by
 exact Af (ks:=[kn h0,kn h1,kn h1,kn h2,kn h3]) (by kernel_rfl)
end
def Aih (n:Nat) (f:Nat->E6) :Nat->V:=lkV AH [(4,.ref 0),(10,.sl 6 n (λi=>eV (f i))),(11,nV n),(12,.ref 1)]
def GR (n:Nat) (f:Nat->E6):Lp:=⟨bmK 51 0 [5,6,9],2,bmK 51 0 [5],2,n+1⟩
def KX (n:Nat) (f:Nat->E6) (s d:Int) (h:Nat->Int) (j:Nat->V):St:=⟨jsV 51 0 j [(5,.ref 1),(6,iV s),(9,iV d)],[.row 3 1 0 Ab,.row 3 1 n (λk=>iV (h k))]⟩
def LD (n:Nat) (f:Nat->E6) (s d:Int) (h:Nat->Int):Ex×St:=(.ex 2,⟨jsV 51 0 Ab [(5,.ref 1)],[.row 3 1 0 Ab,.row 3 1 n (λk=>iV (h k))]⟩)
noncomputable def HH (L:LT):St->T (Ex×St):=λst=>AK tab ⟨A2 tbY,L,Gl⟩ (A3 Tryz.f175 2) 2 st
section
variable (L:LT) (n:Nat) (f:Nat->E6) (s d:Int) (h:Nat->Int)  (j:Nat->V)
include L n f s d h j
theorem Akj (h0:ile 0 d=false):A1 (HH L) (GR n f) (KX n f s d h j)=some ((.ex 2),⟨jsV 51 0 Ab [(5,.ref 1)],[.row 3 1 0 Ab,.row 3 1 n (λk=>iV (h k))]⟩):=by
 exact Af (ks:=[kn h0,kn h0,kn h0,kn h0,kn h0,kn h0,kn h0,kF]) (by kernel_rfl)
theorem Aki (h0:ile 0 d=true) (h1:Ak (ile 0 d) (ilt d (ofNat n))=true) (h2:nlt (toN d) n=true) (h3:ieq (h (toN d)) s=false):A1 (HH L) (GR n f) (KX n f s d h j)=some ((.ex 2),⟨jsV 51 0 Ab [(5,.ref 1)],[.row 3 1 0 Ab,.row 3 1 n (λk=>iV (h k))]⟩):=by
 exact Af (ks:=[kn h0,kn h0,kn h0,kn h1,kn h0,kn h2,kn h0,kn h0,kn h0,kn h3]) (by kernel_rfl)
theorem Akh (h0:ile 0 d=true) (h1:Ak (ile 0 d) (ilt d (ofNat n))=true) (h2:nlt (toN d) n=true) (h3:ieq (h (toN d)) s=true):A1 (HH L) (GR n f) (KX n f s d h j)=some (.nm,⟨jsV 51 0 Ab [(5,.ref 1),(6,iV s),(9,iV (wr .i64 (By d 1)))],[.row 3 1 0 Ab,.row 3 1 n (B1 (λk=>iV (h k)) (toN d) (iV 0))]⟩):=by
 exact Af (ks:=[kn h0,kn h0,kn h0,kn h1,kn h0,kn h2,kn h0,kn h0,kn h0,kn h3,kn h1,kn h2]) (by kernel_rfl)
end
def Agz (n:Nat) (f:Nat->E6) (s:Int) (i:Nat) (h:Nat->Int):Nat->V:=lkU 2251766527688094 [(0,.sl 6 n (λi=>eV (f i))),(30,iV s),(31,bV (ilt 0 s)),(32,.sl 6 n (λi=>eV (f i))),(33,nV n),(34,iV (wr .i64 (By (ofNat n) 1)))]
theorem AiS (L:LT) (p0:PT) (n:Nat) (f:Nat->E6) (s:Int) (i:Nat) (h:Nat->Int) (h0:EL 8 (ofNat n) (ofNat n)=true) (h1:ilt 0 s=false) (hp0:p0 (JM (onP 0 p0 (MF n f s i h) L)) (Q3 n f 0 0 (λ_=>0) (Aih n f ))=true):(Ay (Aj tab ⟨A2 tbY,onP 0 p0 (MF n f s i h) L,Gl⟩ Tryz.f175 [AN n f,.fn 171 []] [])).sem=some ((.ref 0),[.row 3 1 n (λk=>iV (h k))]):=by
 exact Af (ks:=[kn h0,kn hp0,kn h1]) (by kernel_rfl)
theorem AiT (L:LT) (p0:PT) (p2:PT) (n:Nat) (f:Nat->E6) (s d:Int) (i:Nat) (h g:Nat->Int) (h0:EL 8 (ofNat n) (ofNat n)=true) (h1:ilt 0 s=true) (hp0:p0 (JM (onP 0 p0 (MF n f s i h) (onP 2 p2 (LD n f s d g) L))) (Q3 n f 0 0 (λ_=>0) (Aih n f ))=true) (hp2:p2 (HH (onP 0 p0 (MF n f s i h) (onP 2 p2 (LD n f s d g) L))) (KX n f s (wr .i64 (By (ofNat n) 1)) h (Agz n f s i h))=true):(Ay (Aj tab ⟨A2 tbY,onP 0 p0 (MF n f s i h) (onP 2 p2 (LD n f s d g) L),Gl⟩ Tryz.f175 [AN n f,.fn 171 []] [])).sem=some ((.ref 0),[.row 3 1 n (λk=>iV (g k))]):=by
 exact Af (ks:=[kn h0,kn hp0,kn h1,kn hp2]) (by kernel_rfl)
def Nn (n:Nat) (f:Nat->E6):Lp:=⟨bmK 51 0 [0,1,5,6,13,14,15],2,bmK 51 0 [0,5,6],2,n+1⟩
def Q4 (n:Nat) (f:Nat->E6) (s:Int) (i:Nat) (h:Nat->Int) (j:Nat->V):St:=⟨jsV 51 0 j [(0,.sl 6 n (λi=>eV (f i))),(1,.fn 172 []),(5,.ref 1),(6,iV s),(13,.sl 6 n (λi=>eV (f i))),(14,nV n),(15,nV i)],[.row 3 1 0 Ab,.row 3 1 n (λk=>iV (h k))]⟩
def MG (n:Nat) (f:Nat->E6) (s:Int) (i:Nat) (h:Nat->Int):Ex×St:=(.ex 0,⟨jsV 51 0 Ab [(0,.sl 6 n (λi=>eV (f i))),(5,.ref 1),(6,iV s)],[.row 3 1 0 Ab,.row 3 1 n (λk=>iV (h k))]⟩)
noncomputable def JO (L:LT):St->T (Ex×St):=λst=>AK tab ⟨A2 tbY,L,Gl⟩ (A3 Tryz.f175 0) 0 st
section
variable (L:LT) (n:Nat) (f:Nat->E6) (s:Int) (i:Nat) (h:Nat->Int)  (j:Nat->V)
include L n f s i h j
theorem Ak2 (h0:ilt (ofNat i) (ofNat n)=false):A1 (JO L) (Nn n f) (Q4 n f s i h j)=some ((.ex 0),⟨jsV 51 0 Ab [(0,.sl 6 n (λi=>eV (f i))),(5,.ref 1),(6,iV s)],[.row 3 1 0 Ab,.row 3 1 n (λk=>iV (h k))]⟩):=by
 exact Af (ks:=[kn h0]) (by kernel_rfl)
theorem Ak0 (h0:ilt (ofNat i) (ofNat n)=true) (h1:Ak (ile 0 (ofNat i)) (ilt (ofNat i) (ofNat n))=true) (h2:nlt i n=true) (h3:AG (f i)=true):A1 (JO L) (Nn n f) (Q4 n f s i h j)=some (.nm,⟨jsV 51 0 Ab [(0,.sl 6 n (λi=>eV (f i))),(1,.fn 172 []),(5,.ref 1),(6,iV (wr .i64 (Ai s 1))),(13,.sl 6 n (λi=>eV (f i))),(14,nV n),(15,iV (wr .i64 (Ai (ofNat i) 1)))],[.row 3 1 0 Ab,.row 3 1 n (B1 (λk=>iV (h k)) i (iV s))]⟩):=by
 exact Af (ks:=[kn h0,kn h1,kn h1,kn h2,kn h3]) (by kernel_rfl)
theorem Ak1 (h0:ilt (ofNat i) (ofNat n)=true) (h1:Ak (ile 0 (ofNat i)) (ilt (ofNat i) (ofNat n))=true) (h2:nlt i n=true) (h3:AG (f i)=false):A1 (JO L) (Nn n f) (Q4 n f s i h j)=some (.nm,⟨jsV 51 0 Ab [(0,.sl 6 n (λi=>eV (f i))),(1,.fn 172 []),(5,.ref 1),(6,iV s),(13,.sl 6 n (λi=>eV (f i))),(14,nV n),(15,iV (wr .i64 (Ai (ofNat i) 1)))],[.row 3 1 0 Ab,.row 3 1 n (B1 (λk=>iV (h k)) i (iV s))]⟩):=by
 exact Af (ks:=[kn h0,kn h1,kn h1,kn h2,kn h3]) (by kernel_rfl)
end
def Aii (n:Nat) (f:Nat->E6) :Nat->V:=lkV AH [(4,.ref 0),(10,.sl 6 n (λi=>eV (f i))),(11,nV n),(12,.ref 1)]
def GT (n:Nat) (f:Nat->E6):Lp:=⟨bmK 51 0 [5,6,9],2,bmK 51 0 [5],2,n+1⟩
def KY (n:Nat) (f:Nat->E6) (s d:Int) (h:Nat->Int) (j:Nat->V):St:=⟨jsV 51 0 j [(5,.ref 1),(6,iV s),(9,iV d)],[.row 3 1 0 Ab,.row 3 1 n (λk=>iV (h k))]⟩
def LF (n:Nat) (f:Nat->E6) (s d:Int) (h:Nat->Int):Ex×St:=(.ex 2,⟨jsV 51 0 Ab [(5,.ref 1)],[.row 3 1 0 Ab,.row 3 1 n (λk=>iV (h k))]⟩)
noncomputable def HI (L:LT):St->T (Ex×St):=λst=>AK tab ⟨A2 tbY,L,Gl⟩ (A3 Tryz.f175 2) 2 st
section
variable (L:LT) (n:Nat) (f:Nat->E6) (s d:Int) (h:Nat->Int)  (j:Nat->V)
include L n f s d h j
theorem Akm (h0:ile 0 d=false):A1 (HI L) (GT n f) (KY n f s d h j)=some ((.ex 2),⟨jsV 51 0 Ab [(5,.ref 1)],[.row 3 1 0 Ab,.row 3 1 n (λk=>iV (h k))]⟩):=by
 exact Af (ks:=[kn h0,kn h0,kn h0,kn h0,kn h0,kn h0,kn h0,kF]) (by kernel_rfl)
theorem Akl (h0:ile 0 d=true) (h1:Ak (ile 0 d) (ilt d (ofNat n))=true) (h2:nlt (toN d) n=true) (h3:ieq (h (toN d)) s=false):A1 (HI L) (GT n f) (KY n f s d h j)=some ((.ex 2),⟨jsV 51 0 Ab [(5,.ref 1)],[.row 3 1 0 Ab,.row 3 1 n (λk=>iV (h k))]⟩):=by
 exact Af (ks:=[kn h0,kn h0,kn h0,kn h1,kn h0,kn h2,kn h0,kn h0,kn h0,kn h3]) (by kernel_rfl)
theorem Akk (h0:ile 0 d=true) (h1:Ak (ile 0 d) (ilt d (ofNat n))=true) (h2:nlt (toN d) n=true) (h3:ieq (h (toN d)) s=true):A1 (HI L) (GT n f) (KY n f s d h j)=some (.nm,⟨jsV 51 0 Ab [(5,.ref 1),(6,iV s),(9,iV (wr .i64 (By d 1)))],[.row 3 1 0 Ab,.row 3 1 n (B1 (λk=>iV (h k)) (toN d) (iV 0))]⟩):=by
 exact Af (ks:=[kn h0,kn h0,kn h0,kn h1,kn h0,kn h2,kn h0,kn h0,kn h0,kn h3,kn h1,kn h2]) (by kernel_rfl)
end
def Ag0 (n:Nat) (f:Nat->E6) (s:Int) (i:Nat) (h:Nat->Int):Nat->V:=lkU 2251766527688094 [(0,.sl 6 n (λi=>eV (f i))),(30,iV s),(31,bV (ilt 0 s)),(32,.sl 6 n (λi=>eV (f i))),(33,nV n),(34,iV (wr .i64 (By (ofNat n) 1)))]
theorem AiU (L:LT) (p0:PT) (n:Nat) (f:Nat->E6) (s:Int) (i:Nat) (h:Nat->Int) (h0:EL 8 (ofNat n) (ofNat n)=true) (h1:ilt 0 s=false) (hp0:p0 (JO (onP 0 p0 (MG n f s i h) L)) (Q4 n f 0 0 (λ_=>0) (Aii n f ))=true):(Ay (Aj tab ⟨A2 tbY,onP 0 p0 (MG n f s i h) L,Gl⟩ Tryz.f175 [AN n f,.fn 172 []] [])).sem=some ((.ref 0),[.row 3 1 n (λk=>iV (h k))]):=by
 exact Af (ks:=[kn h0,kn hp0,kn h1]) (by kernel_rfl)
theorem AiV (L:LT) (p0:PT) (p2:PT) (n:Nat) (f:Nat->E6) (s d:Int) (i:Nat) (h g:Nat->Int) (h0:EL 8 (ofNat n) (ofNat n)=true) (h1:ilt 0 s=true) (hp0:p0 (JO (onP 0 p0 (MG n f s i h) (onP 2 p2 (LF n f s d g) L))) (Q4 n f 0 0 (λ_=>0) (Aii n f ))=true) (hp2:p2 (HI (onP 0 p0 (MG n f s i h) (onP 2 p2 (LF n f s d g) L))) (KY n f s (wr .i64 (By (ofNat n) 1)) h (Ag0 n f s i h))=true):(Ay (Aj tab ⟨A2 tbY,onP 0 p0 (MG n f s i h) (onP 2 p2 (LF n f s d g) L),Gl⟩ Tryz.f175 [AN n f,.fn 172 []] [])).sem=some ((.ref 0),[.row 3 1 n (λk=>iV (g k))]):=by
 exact Af (ks:=[kn h0,kn hp0,kn h1,kn hp2]) (by kernel_rfl)
theorem Wh (L:LT) (n:Nat) (f:Nat->E6) (hn:n <= 4611686018427387904):∀ (e i:Nat) (j:Nat->V) (q:Nat),n=i+e->e<q ->
  (A4 (JM L) (Nm n f) q (Q3 n f (ofNat (Al (λk=>A9 (f k)) i)) i (Dq (λk=>A9 (f k)) i) j)).sem=some (MF n f (ofNat (Al (λk=>A9 (f k)) n)) n (Dq (λk=>A9 (f k)) n))
 | 0,i,j,q+1,h,_=>by
  have:n=i:=by omega
  subst this;exact Ah (Akz L n f _ _ _ j (Az (Nat.le_refl _)))
 | e+1,i,j,q+1,h,h2=>by
  have hc:=BI (λk=>A9 (f k)) i;have hl:ilt (ofNat i) (ofNat n)=true:=ofNat_lt (by omega);have hb:Ak (ile 0 (ofNat i)) (ilt (ofNat i) (ofNat n))=true:=by rw [Cy,hl]; rfl
  have hk:nlt i n=true:=by simpa [nlt] using (show i<n by omega)
  cases hp:A9 (f i) with
  | true =>
   rw [Ah (Akx L n f _ i _ j hl hb hk hp),AY,A5 (show i<n by omega) hn,A5 (show Al (λk=>A9 (f k)) i<n by omega) hn,
    show Al (λk=>A9 (f k)) i+1=Al (λk=>A9 (f k)) (i+1) by rw [Al,hp],CN,KN]
   exact Wh L n f hn e (i+1) Ab q (by omega) (by omega)
  | false =>
   rw [Ah (Aky L n f _ i _ j hl hb hk hp),AY,A5 (show i<n by omega) hn,CN,KN,
    show Al (λk=>A9 (f k)) i=Al (λk=>A9 (f k)) (i+1) by rw [Al,hp]]
   exact Wh L n f hn e (i+1) Ab q (by omega) (by omega)
theorem Abs (L:LT) (n:Nat) (f:Nat->E6) (hn:n <= 4611686018427387904):∀ (D:Nat) (j:Nat->V) (q:Nat),D <= n->D<q->(∀ k,D <= k->k<n->Al (λk=>A9 (f k)) k=Al (λk=>A9 (f k)) n) ->
  (A4 (HH L) (GR n f) q (KX n f (ofNat (Al (λk=>A9 (f k)) n)) (dn D) (Dq (λk=>A9 (f k)) D) j)).sem=some (LD n f 0 0 (A8 (λk=>A9 (f k)) n))
 | 0,j,q+1,h,_,hb=>by
  rw [<- Ic (λk=>A9 (f k)) n 0 h (λk hk=>absurd hk (Nat.not_lt_zero _)) hb];exact Ah (Akj L n f _ _ _ j rfl)
 | D+1,j,q+1,h,h2,hb=>by
  have hl:ilt (ofNat D) (ofNat n)=true:=ofNat_lt (by omega);have hb1:Ak (ile 0 (ofNat D)) (ilt (ofNat D) (ofNat n))=true:=by rw [Cy,hl]; rfl
  have hk:nlt D n=true:=by simpa [nlt] using (show D<n by omega)
  have hr:Dq (λk=>A9 (f k)) (D+1) D=ofNat (Al (λk=>A9 (f k)) D):=by simp [Dq]
  cases hp:ieq (Dq (λk=>A9 (f k)) (D+1) D) (ofNat (Al (λk=>A9 (f k)) n)) with
  | true =>
   have he:Al (λk=>A9 (f k)) D=Al (λk=>A9 (f k)) n:=by
    rw [hr] at hp;have h7:((Al (λk=>A9 (f k)) D:Nat):Int)=((Al (λk=>A9 (f k)) n:Nat):Int):=by simpa [ieq] using hp
    omega
   rw [show dn (D+1)=ofNat D from rfl,Ah (Akh L n f _ _ _ j (Cy D) hb1 hk hp),AY,Rp (show D <= n by omega) hn,CN,show toN (ofNat D)=D from rfl,Mi];exact Abs L n f hn D Ab q (by omega) (by omega) λk h3 h4=>by
    by_cases h5:k=D
    ·subst h5; exact he
    ·exact hb k (by omega) h4
  | false =>
   have he:Al (λk=>A9 (f k)) D ≠ Al (λk=>A9 (f k)) n:=λe=>by rw [hr,e] at hp; simp [ieq] at hp
   rw [<- Ic (λk=>A9 (f k)) n (D+1) h (λk hk e=>he (by have:=Ba (λk=>A9 (f k)) (show k <= D by omega); have:=Ba (λk=>A9 (f k)) (show D <= n by omega); omega)) hb];exact Ah (Aki L n f _ _ _ j (Cy D) hb1 hk hp)
theorem Wi (L:LT) (n:Nat) (f:Nat->E6) (hn:n <= 4611686018427387904):∀ (e i:Nat) (j:Nat->V) (q:Nat),n=i+e->e<q ->
  (A4 (JO L) (Nn n f) q (Q4 n f (ofNat (Al (λk=>AG (f k)) i)) i (Dq (λk=>AG (f k)) i) j)).sem=some (MG n f (ofNat (Al (λk=>AG (f k)) n)) n (Dq (λk=>AG (f k)) n))
 | 0,i,j,q+1,h,_=>by
  have:n=i:=by omega
  subst this;exact Ah (Ak2 L n f _ _ _ j (Az (Nat.le_refl _)))
 | e+1,i,j,q+1,h,h2=>by
  have hc:=BI (λk=>AG (f k)) i;have hl:ilt (ofNat i) (ofNat n)=true:=ofNat_lt (by omega);have hb:Ak (ile 0 (ofNat i)) (ilt (ofNat i) (ofNat n))=true:=by rw [Cy,hl]; rfl
  have hk:nlt i n=true:=by simpa [nlt] using (show i<n by omega)
  cases hp:AG (f i) with
  | true =>
   rw [Ah (Ak0 L n f _ i _ j hl hb hk hp),AY,A5 (show i<n by omega) hn,A5 (show Al (λk=>AG (f k)) i<n by omega) hn,
    show Al (λk=>AG (f k)) i+1=Al (λk=>AG (f k)) (i+1) by rw [Al,hp],CN,KN]
   exact Wi L n f hn e (i+1) Ab q (by omega) (by omega)
  | false =>
   rw [Ah (Ak1 L n f _ i _ j hl hb hk hp),AY,A5 (show i<n by omega) hn,CN,KN,
    show Al (λk=>AG (f k)) i=Al (λk=>AG (f k)) (i+1) by rw [Al,hp]]
   exact Wi L n f hn e (i+1) Ab q (by omega) (by omega)
theorem Abt (L:LT) (n:Nat) (f:Nat->E6) (hn:n <= 4611686018427387904):∀ (D:Nat) (j:Nat->V) (q:Nat),D <= n->D<q->(∀ k,D <= k->k<n->Al (λk=>AG (f k)) k=Al (λk=>AG (f k)) n) ->
  (A4 (HI L) (GT n f) q (KY n f (ofNat (Al (λk=>AG (f k)) n)) (dn D) (Dq (λk=>AG (f k)) D) j)).sem=some (LF n f 0 0 (A8 (λk=>AG (f k)) n))
 | 0,j,q+1,h,_,hb=>by
  rw [<- Ic (λk=>AG (f k)) n 0 h (λk hk=>absurd hk (Nat.not_lt_zero _)) hb];exact Ah (Akm L n f _ _ _ j rfl)
 | D+1,j,q+1,h,h2,hb=>by
  have hl:ilt (ofNat D) (ofNat n)=true:=ofNat_lt (by omega);have hb1:Ak (ile 0 (ofNat D)) (ilt (ofNat D) (ofNat n))=true:=by rw [Cy,hl]; rfl
  have hk:nlt D n=true:=by simpa [nlt] using (show D<n by omega)
  have hr:Dq (λk=>AG (f k)) (D+1) D=ofNat (Al (λk=>AG (f k)) D):=by simp [Dq]
  cases hp:ieq (Dq (λk=>AG (f k)) (D+1) D) (ofNat (Al (λk=>AG (f k)) n)) with
  | true =>
   have he:Al (λk=>AG (f k)) D=Al (λk=>AG (f k)) n:=by
    rw [hr] at hp;have h7:((Al (λk=>AG (f k)) D:Nat):Int)=((Al (λk=>AG (f k)) n:Nat):Int):=by simpa [ieq] using hp
    omega
   rw [show dn (D+1)=ofNat D from rfl,Ah (Akk L n f _ _ _ j (Cy D) hb1 hk hp),AY,Rp (show D <= n by omega) hn,CN,show toN (ofNat D)=D from rfl,Mi];exact Abt L n f hn D Ab q (by omega) (by omega) λk h3 h4=>by
    by_cases h5:k=D
    ·subst h5; exact he
    ·exact hb k (by omega) h4
  | false =>
   have he:Al (λk=>AG (f k)) D ≠ Al (λk=>AG (f k)) n:=λe=>by rw [hr,e] at hp; simp [ieq] at hp
   rw [<- Ic (λk=>AG (f k)) n (D+1) h (λk hk e=>he (by have:=Ba (λk=>AG (f k)) (show k <= D by omega); have:=Ba (λk=>AG (f k)) (show D <= n by omega); omega)) hb];exact Ah (Akl L n f _ _ _ j (Cy D) hb1 hk hp)
def Ww:List V->AA
 | [v,.fn g []]=>apL v λn f=>.br (EL 8 (ofNat n) (ofNat n)) (match Nat.beq g 171,Nat.beq g 172 with
  | true,_=>.leaf (.ref 0,[.row 3 1 n λk=>iV (A8 (λk=>A9 (f k)) n k)])
  | false,true=>.leaf (.ref 0,[.row 3 1 n λk=>iV (A8 (λk=>AG (f k)) n k)])
  | false,false=>.fail) .fail
 | _=>.fail
theorem Wo (p:Nat->Bool):Dq p 0=λ_=>0:=by
 funext k;simp [Dq]
theorem So (p:Nat->Bool) (n:Nat) (h:Al p n=0):Dq p n=A8 p n:=by
 funext k;unfold Dq A8;by_cases h3:k<n
 ·have:=Ba p (show k <= n by omega)
  have h4:Al p k=0:=by omega
  simp [h3,h,h4]
 ·simp [h3]
theorem Aet (n:Nat) (f:Nat->E6) (hm:EL 8 (ofNat n) (ofNat n)=true) :
  (Ay (Aj tab (AT Gl tbY [(0,Nm n f),(2,GR n f)]) Tryz.f175 [AN n f,.fn 171 []] [])).sem=some (.ref 0,[.row 3 1 n λk=>iV (A8 (λk=>A9 (f k)) n k)]):=by
 have hn:n <= 4611686018427387904:=by
  simp only [EL,Bool.and_eq_true,decide_eq_true_eq] at hm;have:=hm.2.2.1;simp only [Int.ofNat_eq_natCast] at this;omega
 have hL:=Bq [(0,Nm n f),(2,GR n f)];have h0:=λL j=>Wh L n f hn n 0 j (n+1) (by omega) (by omega);have h2:=λL j=>Abs L n f hn n j (n+1) (Nat.le_refl _) (by omega) (λk h1 h2=>by omega);rw [Wo] at h0;rw [<- Rp (Nat.le_refl n) hn] at h2;cases hs:ilt 0 (ofNat (Al (λk=>A9 (f k)) n)) with
 | true=>exact Bp (Bm (Bm hL hL) hL) _ (AiT _ _ _ n f _ 0 n (Dq (λk=>A9 (f k)) n) (A8 (λk=>A9 (f k)) n) hm hs (AB (h0 _ _)) (AB (h2 _ _)))
 | false =>rw [<- So (λk=>A9 (f k)) n (by simpa [ilt] using hs)];exact Bp (Bm hL hL) _ (AiS _ _ n f _ n _ hm hs (AB (h0 _ _)))
theorem Aeu (n:Nat) (f:Nat->E6) (hm:EL 8 (ofNat n) (ofNat n)=true) :
  (Ay (Aj tab (AT Gl tbY [(0,Nn n f),(2,GT n f)]) Tryz.f175 [AN n f,.fn 172 []] [])).sem=some (.ref 0,[.row 3 1 n λk=>iV (A8 (λk=>AG (f k)) n k)]):=by
 have hn:n <= 4611686018427387904:=by
  simp only [EL,Bool.and_eq_true,decide_eq_true_eq] at hm;have:=hm.2.2.1;simp only [Int.ofNat_eq_natCast] at this;omega
 have hL:=Bq [(0,Nn n f),(2,GT n f)];have h0:=λL j=>Wi L n f hn n 0 j (n+1) (by omega) (by omega);have h2:=λL j=>Abt L n f hn n j (n+1) (Nat.le_refl _) (by omega) (λk h1 h2=>by omega);rw [Wo] at h0;rw [<- Rp (Nat.le_refl n) hn] at h2;cases hs:ilt 0 (ofNat (Al (λk=>AG (f k)) n)) with
 | true=>exact Bp (Bm (Bm hL hL) hL) _ (AiV _ _ _ n f _ 0 n (Dq (λk=>AG (f k)) n) (A8 (λk=>AG (f k)) n) hm hs (AB (h0 _ _)) (AB (h2 _ _)))
 | false =>rw [<- So (λk=>AG (f k)) n (by simpa [ilt] using hs)];exact Bp (Bm hL hL) _ (AiU _ _ n f _ n _ hm hs (AB (h0 _ _)))
theorem p92:As Tryz.prog Gl 175 Ww:=by
 refine Am A0 mixed Tryz.func175 (by kernel_rfl) (by kernel_rfl) λvs v h' h=>?_;unfold Ww at h;split at h
 ·rename_i u g
  obtain ⟨n,f,ha,h1⟩:=CG h;obtain ⟨hm,hq⟩:=Ad h1;clear h h1;have hA:Bw [u,.fn g []] [AN n f,.fn g []]:=λS w cs hv=>by
   obtain ⟨c,l,rfl,q1,q2⟩:=hv;exact ⟨c,l,rfl,ha S w c q1,q2⟩
  split at hq
  ·rename_i h1
   have h1:=Nat.eq_of_beq_eq_true h1;subst h1;have:=Aa hq;simp only [Prod.mk.injEq] at this;obtain ⟨rfl,rfl⟩:=this;have hx:=Bs Om [(0,Nm n f),(2,GR n f)];exact ⟨_,AT Gl tbY [(0,Nm n f),(2,GR n f)],_,hA,rfl,hx.1,hx.2,Aet n f hm,Aw.refl _⟩
  ·rename_i h1
   have h1:=Nat.eq_of_beq_eq_true h1;subst h1;have:=Aa hq;simp only [Prod.mk.injEq] at this;obtain ⟨rfl,rfl⟩:=this;have hx:=Bs Om [(0,Nn n f),(2,GT n f)];exact ⟨_,AT Gl tbY [(0,Nn n f),(2,GT n f)],_,hA,rfl,hx.1,hx.2,Aeu n f hm,Aw.refl _⟩
  ·cases hq
 ·cases h
end Go.Proofs.YtkbafjceglhjhaaGreatDoor.Ed
namespace Go.Proofs.YtkbafjceglhjhaaGreatDoor.Ed
open Go.Sy
end Go.Proofs.YtkbafjceglhjhaaGreatDoor.Ed
namespace Go.Proofs.YtkbafjceglhjhaaGreatDoor.Ed
open Go.Sy
def okI (v:V):Bool:=match gI v with
 | some _=>true
 | none=>false
def edI (v:V):Int:=match gI v with
 | some e=>e
 | none=>0
theorem OG {v:V} (h:okI v=true):v=iV (edI v):=by
 unfold okI at h;unfold edI;split at h
 ·rename_i e he
  exact GX he
 ·cases h
def F6 (n:Nat) (f:Nat->Int):V:=.sl 1 n λi=>iV (f i)
def ZZ:V->Option (Nat×(Nat->V))
 | .sl s n g=>match Nat.beq s 1 with
  | true=>some (n,g)
  | false=>none
 | _=>none
def apI {α:Type} (v:V) (F:Nat->(Nat->Int)->T α):T α :=
 match ZZ v with
 | some (n,g)=>.br (Bo n λi=>okI (g i)) (F n λi=>edI (g i)) .fail
 | none=>.fail
theorem FG {α:Type} {v:V} {F:Nat->(Nat->Int)->T α} {r:α} (h:(apI v F).sem=some r) :
  ∃ n f,(∀ (S:Nat->Prop) (w:World) (c:Value),VR S w v noK c->VR S w (F6 n f) noK c)∧(F n f).sem=some r:=by
 unfold apI at h;split at h
 ·rename_i n g hg
  obtain ⟨h1,h2⟩:=Ad h;have h1:=AO.1 h1;refine ⟨n,_,λS w c hv=>?_,h2⟩;unfold ZZ at hg;split at hg
  ·rename_i s n' g'
   split at hg
   ·rename_i hs
    simp only [Option.some.injEq,Prod.mk.injEq] at hg;obtain ⟨rfl,rfl⟩:=hg;have hs:s=1:=Nat.eq_of_beq_eq_true hs;subst hs;obtain ⟨a,cap,e,hc,hb⟩:=hv;refine ⟨a,cap,e,hc,hb.imp id ?_⟩
    rintro ⟨b,o,ea,hel⟩
    refine ⟨b,o,ea,λi hi=>?_⟩;have:=hel i hi;rw [OG (h1 i hi)] at this;exact this
   ·cases hg
  ·cases hg
 ·cases h
def apI2 (F:Nat->(Nat->Int)->Nat->(Nat->Int)->AA):List V->AA
 | [v,u]=>apI v λn f=>apI u λm g=>F n f m g
 | _=>.fail
def AgV (F:Nat->(Nat->Int)->AA):List V->AA
 | [v]=>apI v F
 | _=>.fail
theorem R9 {F:Nat->(Nat->Int)->AA} {vs:List V} {r:V×List Blk} (h:(AgV F vs).sem=some r):∃ n f,Bw vs [F6 n f]∧(F n f).sem=some r:=by
 unfold AgV at h;split at h
 ·obtain ⟨n,f,h1,h2⟩:=FG h
  refine ⟨n,f,λS w cs hv=>?_,h2⟩;obtain ⟨c,l,rfl,q1,q2⟩:=hv;exact ⟨c,l,rfl,h1 S w c q1,q2⟩
 ·cases h
def okB (v:V):Bool:=match gB v with
 | some _=>true
 | none=>false
def edB (v:V):Bool:=match gB v with
 | some e=>e
 | none=>false
theorem AbR {v:V} (h:okB v=true):v=bV (edB v):=by
 unfold okB at h;unfold edB;split at h
 ·rename_i e he
  exact SR he
 ·cases h
def Xr (n:Nat) (f:Nat->Bool):V:=.sl 1 n λi=>bV (f i)
def apB {α:Type} (v:V) (F:Nat->(Nat->Bool)->T α):T α :=
 match ZZ v with
 | some (n,g)=>.br (Bo n λi=>okB (g i)) (F n λi=>edB (g i)) .fail
 | none=>.fail
theorem Aea {α:Type} {v:V} {F:Nat->(Nat->Bool)->T α} {r:α} (h:(apB v F).sem=some r) :
  ∃ n f,(∀ (S:Nat->Prop) (w:World) (c:Value),VR S w v noK c->VR S w (Xr n f) noK c)∧(F n f).sem=some r:=by
 unfold apB at h;split at h
 ·rename_i n g hg
  obtain ⟨h1,h2⟩:=Ad h;have h1:=AO.1 h1;refine ⟨n,_,λS w c hv=>?_,h2⟩;unfold ZZ at hg;split at hg
  ·rename_i s n' g'
   split at hg
   ·rename_i hs
    simp only [Option.some.injEq,Prod.mk.injEq] at hg;obtain ⟨rfl,rfl⟩:=hg;have hs:s=1:=Nat.eq_of_beq_eq_true hs;subst hs;obtain ⟨a,cap,e,hc,hb⟩:=hv;refine ⟨a,cap,e,hc,hb.imp id ?_⟩
    rintro ⟨b,o,ea,hel⟩
    refine ⟨b,o,ea,λi hi=>?_⟩;have:=hel i hi;rw [AbR (h1 i hi)] at this;exact this
   ·cases hg
  ·cases hg
 ·cases h
end Go.Proofs.YtkbafjceglhjhaaGreatDoor.Ed
