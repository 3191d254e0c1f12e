/-
  Layer 4: the parts of a cycle. No conditions.
-/
import Derived.Test.YtkbafjceglhjhaaGreatDoorCyB
import Derived.Test.YtkbafjceglhjhaaGreatDoorSyS
namespace Go.Proofs.YtkbafjceglhjhaaGreatDoor.Ed
open Go.Sy
open Int (ofNat)
def Dc (p:Nat->Bool) (i k:Nat):Int:=bif decide (k<i) then ofNat (Ak p k) else 0
def A7 (p:Nat->Bool) (n k:Nat):Int:=bif decide (k<n) then (bif decide (Ak p k=Ak p n) then 0 else ofNat (Ak p k)) else 0
def Iq (h:Nat->Int) (i:Nat) (s:Int) (k:Nat):Int:=bif decide (k=i) then s else h k
theorem C2 (h:Nat->Int) (i:Nat) (s:Int):By (λk=>iV (h k)) i (iV s)=λk=>iV (Iq h i s k):=by
 funext k;rw [Dk,show Nat.beq k i=decide (k=i) by rw [Bool.eq_iff_iff]; simp];unfold Iq;cases decide (k=i) <;> rfl
theorem Kj (p:Nat->Bool) (i:Nat):Iq (Dc p i) i (ofNat (Ak p i))=Dc p (i+1):=by
 funext k;unfold Iq Dc;by_cases h:k=i
 ·subst h; simp
 ·by_cases h2:k<i
  ·have:k<i+1:=by omega
   simp [h,h2,this]
  ·have:¬ k<i+1:=by omega
   simp [h,h2,this]
theorem Ls (p:Nat->Bool) (i:Nat):Iq (Dc p (i+1)) i 0=Dc p i:=by
 funext k;unfold Iq Dc;by_cases h:k=i
 ·subst h; simp
 ·by_cases h2:k<i
  ·have:k<i+1:=by omega
   simp [h,h2,this]
  ·have:¬ k<i+1:=by omega
   simp [h,h2,this]
def dn:Nat->Int
 | 0=>-1
 | D+1=>ofNat D
theorem Q6 {D n:Nat} (h:D <= n) (hn:n <= 4611686018427387904):wr .i64 (AZ (ofNat D) 1)=dn D:=by
 cases D with
 | zero=>rfl
 | succ D =>unfold wr AZ IntKind.wrap dn;simp [IntKind.bits,IntKind.signed];omega
theorem Bf (p:Nat->Bool):∀ {i k:Nat},i <= k->Ak p i <= Ak p k
 | i,0,h=>by
  have:i=0:=by omega
  subst this;exact Nat.le_refl _
 | i,k+1,h=>by
  by_cases h2:i=k+1
  ·subst h2; exact Nat.le_refl _
  ·have:=Bf p (show i <= k by omega)
   refine Nat.le_trans this ?_;rw [show Ak p (k+1)=(match p k with | true=>Ak p k+1 | false=>Ak p k) from rfl]
   cases p k
   ·exact Nat.le_refl _
   ·exact Nat.le_succ _
theorem HD (p:Nat->Bool) (n D:Nat) (h:D <= n) (h1:∀ k,k<D->Ak p k ≠ Ak p n) (h2:∀ k,D <= k->k<n->Ak p k=Ak p n):Dc p D=A7 p n:=by
 funext k;unfold Dc A7;by_cases h3:k<D
 ·have h4:k<n:=by omega
  simp [h3,h4,h1 k h3]
 ·by_cases h4:k<n
  ·simp [h3,h4,h2 k (by omega) h4]
  ·simp [h3,h4]
def My (n:Nat) (f:Nat->E6):Lp:=⟨bmK 51 0 [0,1,5,6,13,14,15],2,bmK 51 0 [0,5,6],2,n+1⟩
def PN (n:Nat) (f:Nat->E6) (s:Int) (i:Nat) (h:Nat->Int) (j:Nat->V):St:=⟨jsV 51 0 j [(0,.sl 6 n (λi=>eV (f i))),(1,.fn 171 []),(5,.ref 1),(6,iV s),(13,.sl 6 n (λi=>eV (f i))),(14,nV n),(15,nV i)],[.row 3 1 0 Ab,.row 3 1 n (λk=>iV (h k))]⟩
def LU (n:Nat) (f:Nat->E6) (s:Int) (i:Nat) (h:Nat->Int):Ex×St:=(.ex 0,⟨jsV 51 0 Ab [(0,.sl 6 n (λi=>eV (f i))),(5,.ref 1),(6,iV s)],[.row 3 1 0 Ab,.row 3 1 n (λk=>iV (h k))]⟩)
noncomputable def Js (L:LT):St->T (Ex×St):=λst=>A8 tab ⟨Ax tbY,L,Gl⟩ (As Tryz.f175 0) 0 st
section
variable (L:LT) (n:Nat) (f:Nat->E6) (s:Int) (i:Nat) (h:Nat->Int)  (j:Nat->V)
include L n f s i h j
theorem Ajb (h0:ilt (ofNat i) (ofNat n)=false):Ay (Js L) (My n f) (PN n f s i h j)=some ((.ex 0),⟨jsV 51 0 Ab [(0,.sl 6 n (λi=>eV (f i))),(5,.ref 1),(6,iV s)],[.row 3 1 0 Ab,.row 3 1 n (λk=>iV (h k))]⟩):=by
 exact Ad (ks:=[kn h0]) (by kernel_rfl)
theorem AiZ (h0:ilt (ofNat i) (ofNat n)=true) (h1:Aj (ile 0 (ofNat i)) (ilt (ofNat i) (ofNat n))=true) (h2:nlt i n=true) (h3:A4 (f i)=true):Ay (Js L) (My n f) (PN n f s i h j)=some (.nm,⟨jsV 51 0 Ab [(0,.sl 6 n (λi=>eV (f i))),(1,.fn 171 []),(5,.ref 1),(6,iV (wr .i64 (Ah s 1))),(13,.sl 6 n (λi=>eV (f i))),(14,nV n),(15,iV (wr .i64 (Ah (ofNat i) 1)))],[.row 3 1 0 Ab,.row 3 1 n (By (λk=>iV (h k)) i (iV s))]⟩):=by
 exact Ad (ks:=[kn h0,kn h1,kn h1,kn h2,kn h3]) (by kernel_rfl)
theorem Aja (h0:ilt (ofNat i) (ofNat n)=true) (h1:Aj (ile 0 (ofNat i)) (ilt (ofNat i) (ofNat n))=true) (h2:nlt i n=true) (h3:A4 (f i)=false):Ay (Js L) (My n f) (PN n f s i h j)=some (.nm,⟨jsV 51 0 Ab [(0,.sl 6 n (λi=>eV (f i))),(1,.fn 171 []),(5,.ref 1),(6,iV s),(13,.sl 6 n (λi=>eV (f i))),(14,nV n),(15,iV (wr .i64 (Ah (ofNat i) 1)))],[.row 3 1 0 Ab,.row 3 1 n (By (λk=>iV (h k)) i (iV s))]⟩):=by
 exact Ad (ks:=[kn h0,kn h1,kn h1,kn h2,kn h3]) (by kernel_rfl)
end
def Ahe (n:Nat) (f:Nat->E6) :Nat->V:=lkV AI [(4,.ref 0),(10,.sl 6 n (λi=>eV (f i))),(11,nV n),(12,.ref 1)]
def G5 (n:Nat) (f:Nat->E6):Lp:=⟨bmK 51 0 [5,6,9],2,bmK 51 0 [5],2,n+1⟩
def Kt (n:Nat) (f:Nat->E6) (s d:Int) (h:Nat->Int) (j:Nat->V):St:=⟨jsV 51 0 j [(5,.ref 1),(6,iV s),(9,iV d)],[.row 3 1 0 Ab,.row 3 1 n (λk=>iV (h k))]⟩
def KP (n:Nat) (f:Nat->E6) (s d:Int) (h:Nat->Int):Ex×St:=(.ex 2,⟨jsV 51 0 Ab [(5,.ref 1)],[.row 3 1 0 Ab,.row 3 1 n (λk=>iV (h k))]⟩)
noncomputable def Hz (L:LT):St->T (Ex×St):=λst=>A8 tab ⟨Ax tbY,L,Gl⟩ (As Tryz.f175 2) 2 st
section
variable (L:LT) (n:Nat) (f:Nat->E6) (s d:Int) (h:Nat->Int)  (j:Nat->V)
include L n f s d h j
theorem AiL (h0:ile 0 d=false):Ay (Hz L) (G5 n f) (Kt n f s d h j)=some ((.ex 2),⟨jsV 51 0 Ab [(5,.ref 1)],[.row 3 1 0 Ab,.row 3 1 n (λk=>iV (h k))]⟩):=by
 exact Ad (ks:=[kn h0,kn h0,kn h0,kn h0,kn h0,kn h0,kn h0,kF]) (by kernel_rfl)
theorem AiK (h0:ile 0 d=true) (h1:Aj (ile 0 d) (ilt d (ofNat n))=true) (h2:nlt (toN d) n=true) (h3:ieq (h (toN d)) s=false):Ay (Hz L) (G5 n f) (Kt n f s d h j)=some ((.ex 2),⟨jsV 51 0 Ab [(5,.ref 1)],[.row 3 1 0 Ab,.row 3 1 n (λk=>iV (h k))]⟩):=by
 exact Ad (ks:=[kn h0,kn h0,kn h0,kn h1,kn h0,kn h2,kn h0,kn h0,kn h0,kn h3]) (by kernel_rfl)
theorem AiJ (h0:ile 0 d=true) (h1:Aj (ile 0 d) (ilt d (ofNat n))=true) (h2:nlt (toN d) n=true) (h3:ieq (h (toN d)) s=true):Ay (Hz L) (G5 n f) (Kt n f s d h j)=some (.nm,⟨jsV 51 0 Ab [(5,.ref 1),(6,iV s),(9,iV (wr .i64 (AZ d 1)))],[.row 3 1 0 Ab,.row 3 1 n (By (λk=>iV (h k)) (toN d) (iV 0))]⟩):=by
 exact Ad (ks:=[kn h0,kn h0,kn h0,kn h1,kn h0,kn h2,kn h0,kn h0,kn h0,kn h3,kn h1,kn h2]) (by kernel_rfl)
end
def Af2 (n:Nat) (f:Nat->E6) (s:Int) (i:Nat) (h:Nat->Int):Nat->V:=lkU 2251766527688094 [(0,.sl 6 n (λi=>eV (f i))),(30,iV s),(31,bV (ilt 0 s)),(32,.sl 6 n (λi=>eV (f i))),(33,nV n),(34,iV (wr .i64 (AZ (ofNat n) 1)))]
theorem AhG (L:LT) (p0:PT) (n:Nat) (f:Nat->E6) (s:Int) (i:Nat) (h:Nat->Int) (h0:EA 8 (ofNat n) (ofNat n)=true) (h1:ilt 0 s=false) (hp0:p0 (Js (onP 0 p0 (LU n f s i h) L)) (PN n f 0 0 (λ_=>0) (Ahe n f ))=true):(A0 (Ai tab ⟨Ax tbY,onP 0 p0 (LU n f s i h) L,Gl⟩ Tryz.f175 [AL n f,.fn 171 []] [])).sem=some ((.ref 0),[.row 3 1 n (λk=>iV (h k))]):=by
 exact Ad (ks:=[kn h0,kn hp0,kn h1]) (by kernel_rfl)
theorem AhH (L:LT) (p0:PT) (p2:PT) (n:Nat) (f:Nat->E6) (s d:Int) (i:Nat) (h g:Nat->Int) (h0:EA 8 (ofNat n) (ofNat n)=true) (h1:ilt 0 s=true) (hp0:p0 (Js (onP 0 p0 (LU n f s i h) (onP 2 p2 (KP n f s d g) L))) (PN n f 0 0 (λ_=>0) (Ahe n f ))=true) (hp2:p2 (Hz (onP 0 p0 (LU n f s i h) (onP 2 p2 (KP n f s d g) L))) (Kt n f s (wr .i64 (AZ (ofNat n) 1)) h (Af2 n f s i h))=true):(A0 (Ai tab ⟨Ax tbY,onP 0 p0 (LU n f s i h) (onP 2 p2 (KP n f s d g) L),Gl⟩ Tryz.f175 [AL n f,.fn 171 []] [])).sem=some ((.ref 0),[.row 3 1 n (λk=>iV (g k))]):=by
 exact Ad (ks:=[kn h0,kn hp0,kn h1,kn hp2]) (by kernel_rfl)
def Mz (n:Nat) (f:Nat->E6):Lp:=⟨bmK 51 0 [0,1,5,6,13,14,15],2,bmK 51 0 [0,5,6],2,n+1⟩
def PO (n:Nat) (f:Nat->E6) (s:Int) (i:Nat) (h:Nat->Int) (j:Nat->V):St:=⟨jsV 51 0 j [(0,.sl 6 n (λi=>eV (f i))),(1,.fn 172 []),(5,.ref 1),(6,iV s),(13,.sl 6 n (λi=>eV (f i))),(14,nV n),(15,nV i)],[.row 3 1 0 Ab,.row 3 1 n (λk=>iV (h k))]⟩
def LV (n:Nat) (f:Nat->E6) (s:Int) (i:Nat) (h:Nat->Int):Ex×St:=(.ex 0,⟨jsV 51 0 Ab [(0,.sl 6 n (λi=>eV (f i))),(5,.ref 1),(6,iV s)],[.row 3 1 0 Ab,.row 3 1 n (λk=>iV (h k))]⟩)
noncomputable def Jt (L:LT):St->T (Ex×St):=λst=>A8 tab ⟨Ax tbY,L,Gl⟩ (As Tryz.f175 0) 0 st
section
variable (L:LT) (n:Nat) (f:Nat->E6) (s:Int) (i:Nat) (h:Nat->Int)  (j:Nat->V)
include L n f s i h j
theorem Aje (h0:ilt (ofNat i) (ofNat n)=false):Ay (Jt L) (Mz n f) (PO n f s i h j)=some ((.ex 0),⟨jsV 51 0 Ab [(0,.sl 6 n (λi=>eV (f i))),(5,.ref 1),(6,iV s)],[.row 3 1 0 Ab,.row 3 1 n (λk=>iV (h k))]⟩):=by
 exact Ad (ks:=[kn h0]) (by kernel_rfl)
theorem Ajc (h0:ilt (ofNat i) (ofNat n)=true) (h1:Aj (ile 0 (ofNat i)) (ilt (ofNat i) (ofNat n))=true) (h2:nlt i n=true) (h3:AB (f i)=true):Ay (Jt L) (Mz n f) (PO n f s i h j)=some (.nm,⟨jsV 51 0 Ab [(0,.sl 6 n (λi=>eV (f i))),(1,.fn 172 []),(5,.ref 1),(6,iV (wr .i64 (Ah s 1))),(13,.sl 6 n (λi=>eV (f i))),(14,nV n),(15,iV (wr .i64 (Ah (ofNat i) 1)))],[.row 3 1 0 Ab,.row 3 1 n (By (λk=>iV (h k)) i (iV s))]⟩):=by
 exact Ad (ks:=[kn h0,kn h1,kn h1,kn h2,kn h3]) (by kernel_rfl)
theorem Ajd (h0:ilt (ofNat i) (ofNat n)=true) (h1:Aj (ile 0 (ofNat i)) (ilt (ofNat i) (ofNat n))=true) (h2:nlt i n=true) (h3:AB (f i)=false):Ay (Jt L) (Mz n f) (PO n f s i h j)=some (.nm,⟨jsV 51 0 Ab [(0,.sl 6 n (λi=>eV (f i))),(1,.fn 172 []),(5,.ref 1),(6,iV s),(13,.sl 6 n (λi=>eV (f i))),(14,nV n),(15,iV (wr .i64 (Ah (ofNat i) 1)))],[.row 3 1 0 Ab,.row 3 1 n (By (λk=>iV (h k)) i (iV s))]⟩):=by
 exact Ad (ks:=[kn h0,kn h1,kn h1,kn h2,kn h3]) (by kernel_rfl)
end
def Ahf (n:Nat) (f:Nat->E6) :Nat->V:=lkV AI [(4,.ref 0),(10,.sl 6 n (λi=>eV (f i))),(11,nV n),(12,.ref 1)]
def G6 (n:Nat) (f:Nat->E6):Lp:=⟨bmK 51 0 [5,6,9],2,bmK 51 0 [5],2,n+1⟩
def Ku (n:Nat) (f:Nat->E6) (s d:Int) (h:Nat->Int) (j:Nat->V):St:=⟨jsV 51 0 j [(5,.ref 1),(6,iV s),(9,iV d)],[.row 3 1 0 Ab,.row 3 1 n (λk=>iV (h k))]⟩
def KQ (n:Nat) (f:Nat->E6) (s d:Int) (h:Nat->Int):Ex×St:=(.ex 2,⟨jsV 51 0 Ab [(5,.ref 1)],[.row 3 1 0 Ab,.row 3 1 n (λk=>iV (h k))]⟩)
noncomputable def H2 (L:LT):St->T (Ex×St):=λst=>A8 tab ⟨Ax tbY,L,Gl⟩ (As Tryz.f175 2) 2 st
section
variable (L:LT) (n:Nat) (f:Nat->E6) (s d:Int) (h:Nat->Int)  (j:Nat->V)
include L n f s d h j
theorem AiO (h0:ile 0 d=false):Ay (H2 L) (G6 n f) (Ku n f s d h j)=some ((.ex 2),⟨jsV 51 0 Ab [(5,.ref 1)],[.row 3 1 0 Ab,.row 3 1 n (λk=>iV (h k))]⟩):=by
 exact Ad (ks:=[kn h0,kn h0,kn h0,kn h0,kn h0,kn h0,kn h0,kF]) (by kernel_rfl)
theorem AiN (h0:ile 0 d=true) (h1:Aj (ile 0 d) (ilt d (ofNat n))=true) (h2:nlt (toN d) n=true) (h3:ieq (h (toN d)) s=false):Ay (H2 L) (G6 n f) (Ku n f s d h j)=some ((.ex 2),⟨jsV 51 0 Ab [(5,.ref 1)],[.row 3 1 0 Ab,.row 3 1 n (λk=>iV (h k))]⟩):=by
 exact Ad (ks:=[kn h0,kn h0,kn h0,kn h1,kn h0,kn h2,kn h0,kn h0,kn h0,kn h3]) (by kernel_rfl)
theorem AiM (h0:ile 0 d=true) (h1:Aj (ile 0 d) (ilt d (ofNat n))=true) (h2:nlt (toN d) n=true) (h3:ieq (h (toN d)) s=true):Ay (H2 L) (G6 n f) (Ku n f s d h j)=some (.nm,⟨jsV 51 0 Ab [(5,.ref 1),(6,iV s),(9,iV (wr .i64 (AZ d 1)))],[.row 3 1 0 Ab,.row 3 1 n (By (λk=>iV (h k)) (toN d) (iV 0))]⟩):=by
 exact Ad (ks:=[kn h0,kn h0,kn h0,kn h1,kn h0,kn h2,kn h0,kn h0,kn h0,kn h3,kn h1,kn h2]) (by kernel_rfl)
end
def Af3 (n:Nat) (f:Nat->E6) (s:Int) (i:Nat) (h:Nat->Int):Nat->V:=lkU 2251766527688094 [(0,.sl 6 n (λi=>eV (f i))),(30,iV s),(31,bV (ilt 0 s)),(32,.sl 6 n (λi=>eV (f i))),(33,nV n),(34,iV (wr .i64 (AZ (ofNat n) 1)))]
theorem AhI (L:LT) (p0:PT) (n:Nat) (f:Nat->E6) (s:Int) (i:Nat) (h:Nat->Int) (h0:EA 8 (ofNat n) (ofNat n)=true) (h1:ilt 0 s=false) (hp0:p0 (Jt (onP 0 p0 (LV n f s i h) L)) (PO n f 0 0 (λ_=>0) (Ahf n f ))=true):(A0 (Ai tab ⟨Ax tbY,onP 0 p0 (LV n f s i h) L,Gl⟩ Tryz.f175 [AL n f,.fn 172 []] [])).sem=some ((.ref 0),[.row 3 1 n (λk=>iV (h k))]):=by
 exact Ad (ks:=[kn h0,kn hp0,kn h1]) (by kernel_rfl)
theorem AhJ (L:LT) (p0:PT) (p2:PT) (n:Nat) (f:Nat->E6) (s d:Int) (i:Nat) (h g:Nat->Int) (h0:EA 8 (ofNat n) (ofNat n)=true) (h1:ilt 0 s=true) (hp0:p0 (Jt (onP 0 p0 (LV n f s i h) (onP 2 p2 (KQ n f s d g) L))) (PO n f 0 0 (λ_=>0) (Ahf n f ))=true) (hp2:p2 (H2 (onP 0 p0 (LV n f s i h) (onP 2 p2 (KQ n f s d g) L))) (Ku n f s (wr .i64 (AZ (ofNat n) 1)) h (Af3 n f s i h))=true):(A0 (Ai tab ⟨Ax tbY,onP 0 p0 (LV n f s i h) (onP 2 p2 (KQ n f s d g) L),Gl⟩ Tryz.f175 [AL n f,.fn 172 []] [])).sem=some ((.ref 0),[.row 3 1 n (λk=>iV (g k))]):=by
 exact Ad (ks:=[kn h0,kn hp0,kn h1,kn hp2]) (by kernel_rfl)
theorem Vw (L:LT) (n:Nat) (f:Nat->E6) (hn:n <= 4611686018427387904):∀ (e i:Nat) (j:Nat->V) (q:Nat),n=i+e->e<q ->
  (Au (Js L) (My n f) q (PN n f (ofNat (Ak (λk=>A4 (f k)) i)) i (Dc (λk=>A4 (f k)) i) j)).sem=some (LU n f (ofNat (Ak (λk=>A4 (f k)) n)) n (Dc (λk=>A4 (f k)) n))
 | 0,i,j,q+1,h,_=>by
  have:n=i:=by omega
  subst this;exact Ag (Ajb L n f _ _ _ j (Az (Nat.le_refl _)))
 | e+1,i,j,q+1,h,h2=>by
  have hc:=BK (λk=>A4 (f k)) i;have hl:ilt (ofNat i) (ofNat n)=true:=ofNat_lt (by omega);have hb:Aj (ile 0 (ofNat i)) (ilt (ofNat i) (ofNat n))=true:=by rw [Cp,hl]; rfl
  have hk:nlt i n=true:=by simpa [nlt] using (show i<n by omega)
  cases hp:A4 (f i) with
  | true =>
   rw [Ag (AiZ L n f _ i _ j hl hb hk hp),AV,A1 (show i<n by omega) hn,A1 (show Ak (λk=>A4 (f k)) i<n by omega) hn,
    show Ak (λk=>A4 (f k)) i+1=Ak (λk=>A4 (f k)) (i+1) by rw [Ak,hp],C2,Kj]
   exact Vw L n f hn e (i+1) Ab q (by omega) (by omega)
  | false =>
   rw [Ag (Aja L n f _ i _ j hl hb hk hp),AV,A1 (show i<n by omega) hn,C2,Kj,
    show Ak (λk=>A4 (f k)) i=Ak (λk=>A4 (f k)) (i+1) by rw [Ak,hp]]
   exact Vw L n f hn e (i+1) Ab q (by omega) (by omega)
theorem Aao (L:LT) (n:Nat) (f:Nat->E6) (hn:n <= 4611686018427387904):∀ (D:Nat) (j:Nat->V) (q:Nat),D <= n->D<q->(∀ k,D <= k->k<n->Ak (λk=>A4 (f k)) k=Ak (λk=>A4 (f k)) n) ->
  (Au (Hz L) (G5 n f) q (Kt n f (ofNat (Ak (λk=>A4 (f k)) n)) (dn D) (Dc (λk=>A4 (f k)) D) j)).sem=some (KP n f 0 0 (A7 (λk=>A4 (f k)) n))
 | 0,j,q+1,h,_,hb=>by
  rw [<- HD (λk=>A4 (f k)) n 0 h (λk hk=>absurd hk (Nat.not_lt_zero _)) hb];exact Ag (AiL L n f _ _ _ j rfl)
 | D+1,j,q+1,h,h2,hb=>by
  have hl:ilt (ofNat D) (ofNat n)=true:=ofNat_lt (by omega);have hb1:Aj (ile 0 (ofNat D)) (ilt (ofNat D) (ofNat n))=true:=by rw [Cp,hl]; rfl
  have hk:nlt D n=true:=by simpa [nlt] using (show D<n by omega)
  have hr:Dc (λk=>A4 (f k)) (D+1) D=ofNat (Ak (λk=>A4 (f k)) D):=by simp [Dc]
  cases hp:ieq (Dc (λk=>A4 (f k)) (D+1) D) (ofNat (Ak (λk=>A4 (f k)) n)) with
  | true =>
   have he:Ak (λk=>A4 (f k)) D=Ak (λk=>A4 (f k)) n:=by
    rw [hr] at hp;have h7:((Ak (λk=>A4 (f k)) D:Nat):Int)=((Ak (λk=>A4 (f k)) n:Nat):Int):=by simpa [ieq] using hp
    omega
   rw [show dn (D+1)=ofNat D from rfl,Ag (AiJ L n f _ _ _ j (Cp D) hb1 hk hp),AV,Q6 (show D <= n by omega) hn,C2,show toN (ofNat D)=D from rfl,Ls];exact Aao L n f hn D Ab q (by omega) (by omega) λk h3 h4=>by
    by_cases h5:k=D
    ·subst h5; exact he
    ·exact hb k (by omega) h4
  | false =>
   have he:Ak (λk=>A4 (f k)) D ≠ Ak (λk=>A4 (f k)) n:=λe=>by rw [hr,e] at hp; simp [ieq] at hp
   rw [<- HD (λk=>A4 (f k)) n (D+1) h (λk hk e=>he (by have:=Bf (λk=>A4 (f k)) (show k <= D by omega); have:=Bf (λk=>A4 (f k)) (show D <= n by omega); omega)) hb];exact Ag (AiK L n f _ _ _ j (Cp D) hb1 hk hp)
theorem Vx (L:LT) (n:Nat) (f:Nat->E6) (hn:n <= 4611686018427387904):∀ (e i:Nat) (j:Nat->V) (q:Nat),n=i+e->e<q ->
  (Au (Jt L) (Mz n f) q (PO n f (ofNat (Ak (λk=>AB (f k)) i)) i (Dc (λk=>AB (f k)) i) j)).sem=some (LV n f (ofNat (Ak (λk=>AB (f k)) n)) n (Dc (λk=>AB (f k)) n))
 | 0,i,j,q+1,h,_=>by
  have:n=i:=by omega
  subst this;exact Ag (Aje L n f _ _ _ j (Az (Nat.le_refl _)))
 | e+1,i,j,q+1,h,h2=>by
  have hc:=BK (λk=>AB (f k)) i;have hl:ilt (ofNat i) (ofNat n)=true:=ofNat_lt (by omega);have hb:Aj (ile 0 (ofNat i)) (ilt (ofNat i) (ofNat n))=true:=by rw [Cp,hl]; rfl
  have hk:nlt i n=true:=by simpa [nlt] using (show i<n by omega)
  cases hp:AB (f i) with
  | true =>
   rw [Ag (Ajc L n f _ i _ j hl hb hk hp),AV,A1 (show i<n by omega) hn,A1 (show Ak (λk=>AB (f k)) i<n by omega) hn,
    show Ak (λk=>AB (f k)) i+1=Ak (λk=>AB (f k)) (i+1) by rw [Ak,hp],C2,Kj]
   exact Vx L n f hn e (i+1) Ab q (by omega) (by omega)
  | false =>
   rw [Ag (Ajd L n f _ i _ j hl hb hk hp),AV,A1 (show i<n by omega) hn,C2,Kj,
    show Ak (λk=>AB (f k)) i=Ak (λk=>AB (f k)) (i+1) by rw [Ak,hp]]
   exact Vx L n f hn e (i+1) Ab q (by omega) (by omega)
theorem Aap (L:LT) (n:Nat) (f:Nat->E6) (hn:n <= 4611686018427387904):∀ (D:Nat) (j:Nat->V) (q:Nat),D <= n->D<q->(∀ k,D <= k->k<n->Ak (λk=>AB (f k)) k=Ak (λk=>AB (f k)) n) ->
  (Au (H2 L) (G6 n f) q (Ku n f (ofNat (Ak (λk=>AB (f k)) n)) (dn D) (Dc (λk=>AB (f k)) D) j)).sem=some (KQ n f 0 0 (A7 (λk=>AB (f k)) n))
 | 0,j,q+1,h,_,hb=>by
  rw [<- HD (λk=>AB (f k)) n 0 h (λk hk=>absurd hk (Nat.not_lt_zero _)) hb];exact Ag (AiO L n f _ _ _ j rfl)
 | D+1,j,q+1,h,h2,hb=>by
  have hl:ilt (ofNat D) (ofNat n)=true:=ofNat_lt (by omega);have hb1:Aj (ile 0 (ofNat D)) (ilt (ofNat D) (ofNat n))=true:=by rw [Cp,hl]; rfl
  have hk:nlt D n=true:=by simpa [nlt] using (show D<n by omega)
  have hr:Dc (λk=>AB (f k)) (D+1) D=ofNat (Ak (λk=>AB (f k)) D):=by simp [Dc]
  cases hp:ieq (Dc (λk=>AB (f k)) (D+1) D) (ofNat (Ak (λk=>AB (f k)) n)) with
  | true =>
   have he:Ak (λk=>AB (f k)) D=Ak (λk=>AB (f k)) n:=by
    rw [hr] at hp;have h7:((Ak (λk=>AB (f k)) D:Nat):Int)=((Ak (λk=>AB (f k)) n:Nat):Int):=by simpa [ieq] using hp
    omega
   rw [show dn (D+1)=ofNat D from rfl,Ag (AiM L n f _ _ _ j (Cp D) hb1 hk hp),AV,Q6 (show D <= n by omega) hn,C2,show toN (ofNat D)=D from rfl,Ls];exact Aap L n f hn D Ab q (by omega) (by omega) λk h3 h4=>by
    by_cases h5:k=D
    ·subst h5; exact he
    ·exact hb k (by omega) h4
  | false =>
   have he:Ak (λk=>AB (f k)) D ≠ Ak (λk=>AB (f k)) n:=λe=>by rw [hr,e] at hp; simp [ieq] at hp
   rw [<- HD (λk=>AB (f k)) n (D+1) h (λk hk e=>he (by have:=Bf (λk=>AB (f k)) (show k <= D by omega); have:=Bf (λk=>AB (f k)) (show D <= n by omega); omega)) hb];exact Ag (AiN L n f _ _ _ j (Cp D) hb1 hk hp)
def V7:List V->A3
 | [v,.fn g []]=>apL v λn f=>.br (EA 8 (ofNat n) (ofNat n)) (match Nat.beq g 171,Nat.beq g 172 with
  | true,_=>.leaf (.ref 0,[.row 3 1 n λk=>iV (A7 (λk=>A4 (f k)) n k)])
  | false,true=>.leaf (.ref 0,[.row 3 1 n λk=>iV (A7 (λk=>AB (f k)) n k)])
  | false,false=>.fail) .fail
 | _=>.fail
theorem V3 (p:Nat->Bool):Dc p 0=λ_=>0:=by
 funext k;simp [Dc]
theorem Rq (p:Nat->Bool) (n:Nat) (h:Ak p n=0):Dc p n=A7 p n:=by
 funext k;unfold Dc A7;by_cases h3:k<n
 ·have:=Bf p (show k <= n by omega)
  have h4:Ak p k=0:=by omega
  simp [h3,h,h4]
 ·simp [h3]
theorem Adw (n:Nat) (f:Nat->E6) (hm:EA 8 (ofNat n) (ofNat n)=true) :
  (A0 (Ai tab (AP Gl tbY [(0,My n f),(2,G5 n f)]) Tryz.f175 [AL n f,.fn 171 []] [])).sem=some (.ref 0,[.row 3 1 n λk=>iV (A7 (λk=>A4 (f k)) n k)]):=by
 have hn:n <= 4611686018427387904:=by
  simp only [EA,Bool.and_eq_true,decide_eq_true_eq] at hm;have:=hm.2.2.1;simp only [Int.ofNat_eq_natCast] at this;omega
 have hL:=Bh [(0,My n f),(2,G5 n f)];have h0:=λL j=>Vw L n f hn n 0 j (n+1) (by omega) (by omega);have h2:=λL j=>Aao L n f hn n j (n+1) (Nat.le_refl _) (by omega) (λk h1 h2=>by omega);rw [V3] at h0;rw [<- Q6 (Nat.le_refl n) hn] at h2;cases hs:ilt 0 (ofNat (Ak (λk=>A4 (f k)) n)) with
 | true=>exact Bn (Be (Be hL hL) hL) _ (AhH _ _ _ n f _ 0 n (Dc (λk=>A4 (f k)) n) (A7 (λk=>A4 (f k)) n) hm hs (A5 (h0 _ _)) (A5 (h2 _ _)))
 | false =>rw [<- Rq (λk=>A4 (f k)) n (by simpa [ilt] using hs)];exact Bn (Be hL hL) _ (AhG _ _ n f _ n _ hm hs (A5 (h0 _ _)))
theorem Adx (n:Nat) (f:Nat->E6) (hm:EA 8 (ofNat n) (ofNat n)=true) :
  (A0 (Ai tab (AP Gl tbY [(0,Mz n f),(2,G6 n f)]) Tryz.f175 [AL n f,.fn 172 []] [])).sem=some (.ref 0,[.row 3 1 n λk=>iV (A7 (λk=>AB (f k)) n k)]):=by
 have hn:n <= 4611686018427387904:=by
  simp only [EA,Bool.and_eq_true,decide_eq_true_eq] at hm;have:=hm.2.2.1;simp only [Int.ofNat_eq_natCast] at this;omega
 have hL:=Bh [(0,Mz n f),(2,G6 n f)];have h0:=λL j=>Vx L n f hn n 0 j (n+1) (by omega) (by omega);have h2:=λL j=>Aap L n f hn n j (n+1) (Nat.le_refl _) (by omega) (λk h1 h2=>by omega);rw [V3] at h0;rw [<- Q6 (Nat.le_refl n) hn] at h2;cases hs:ilt 0 (ofNat (Ak (λk=>AB (f k)) n)) with
 | true=>exact Bn (Be (Be hL hL) hL) _ (AhJ _ _ _ n f _ 0 n (Dc (λk=>AB (f k)) n) (A7 (λk=>AB (f k)) n) hm hs (A5 (h0 _ _)) (A5 (h2 _ _)))
 | false =>rw [<- Rq (λk=>AB (f k)) n (by simpa [ilt] using hs)];exact Bn (Be hL hL) _ (AhI _ _ n f _ n _ hm hs (A5 (h0 _ _)))
theorem p92:An Tryz.prog Gl 175 V7:=by
 refine Al A2 mixed Tryz.func175 (by kernel_rfl) (by kernel_rfl) λvs v h' h=>?_;unfold V7 at h;split at h
 ·rename_i u g
  obtain ⟨n,f,ha,h1⟩:=Cz h;obtain ⟨hm,hq⟩:=Ac h1;clear h h1;have hA:Bz [u,.fn g []] [AL n f,.fn g []]:=λS w cs hv=>by
   obtain ⟨c,l,rfl,q1,q2⟩:=hv;exact ⟨c,l,rfl,ha S w c q1,q2⟩
  split at hq
  ·rename_i h1
   have h1:=Nat.eq_of_beq_eq_true h1;subst h1;have:=Aa hq;simp only [Prod.mk.injEq] at this;obtain ⟨rfl,rfl⟩:=this;have hx:=Bq N1 [(0,My n f),(2,G5 n f)];exact ⟨_,AP Gl tbY [(0,My n f),(2,G5 n f)],_,hA,rfl,hx.1,hx.2,Adw n f hm,Ap.refl _⟩
  ·rename_i h1
   have h1:=Nat.eq_of_beq_eq_true h1;subst h1;have:=Aa hq;simp only [Prod.mk.injEq] at this;obtain ⟨rfl,rfl⟩:=this;have hx:=Bq N1 [(0,Mz n f),(2,G6 n f)];exact ⟨_,AP Gl tbY [(0,Mz n f),(2,G6 n f)],_,hA,rfl,hx.1,hx.2,Adx n f hm,Ap.refl _⟩
  ·cases hq
 ·cases h
end Go.Proofs.YtkbafjceglhjhaaGreatDoor.Ed
namespace Go.Proofs.YtkbafjceglhjhaaGreatDoor.Ed
open Go.Sy
end Go.Proofs.YtkbafjceglhjhaaGreatDoor.Ed
namespace Go.Proofs.YtkbafjceglhjhaaGreatDoor.Ed
open Go.Sy
def okI (v:V):Bool:=match gI v with
 | some _=>true
 | none=>false
def edI (v:V):Int:=match gI v with
 | some e=>e
 | none=>0
theorem K2 {v:V} (h:okI v=true):v=iV (edI v):=by
 unfold okI at h;unfold edI;split at h
 ·rename_i e he
  exact G9 he
 ·cases h
def Fh (n:Nat) (f:Nat->Int):V:=.sl 1 n λi=>iV (f i)
def Za:V->Option (Nat×(Nat->V))
 | .sl s n g=>match Nat.beq s 1 with
  | true=>some (n,g)
  | false=>none
 | _=>none
def apI {α:Type} (v:V) (F:Nat->(Nat->Int)->T α):T α :=
 match Za v with
 | some (n,g)=>.br (Bi n λi=>okI (g i)) (F n λi=>edI (g i)) .fail
 | none=>.fail
theorem D2 {α:Type} {v:V} {F:Nat->(Nat->Int)->T α} {r:α} (h:(apI v F).sem=some r) :
  ∃ n f,(∀ (S:Nat->Prop) (w:World) (c:Value),VR S w v noK c->VR S w (Fh n f) noK c)∧(F n f).sem=some r:=by
 unfold apI at h;split at h
 ·rename_i n g hg
  obtain ⟨h1,h2⟩:=Ac h;have h1:=AE.1 h1;refine ⟨n,_,λS w c hv=>?_,h2⟩;unfold Za at hg;split at hg
  ·rename_i s n' g'
   split at hg
   ·rename_i hs
    simp only [Option.some.injEq,Prod.mk.injEq] at hg;obtain ⟨rfl,rfl⟩:=hg;have hs:s=1:=Nat.eq_of_beq_eq_true hs;subst hs;obtain ⟨a,cap,e,hc,hb⟩:=hv;refine ⟨a,cap,e,hc,hb.imp id ?_⟩
    rintro ⟨b,o,ea,hel⟩
    refine ⟨b,o,ea,λi hi=>?_⟩;have:=hel i hi;rw [K2 (h1 i hi)] at this;exact this
   ·cases hg
  ·cases hg
 ·cases h
def apI2 (F:Nat->(Nat->Int)->Nat->(Nat->Int)->A3):List V->A3
 | [v,u]=>apI v λn f=>apI u λm g=>F n f m g
 | _=>.fail
def AfZ (F:Nat->(Nat->Int)->A3):List V->A3
 | [v]=>apI v F
 | _=>.fail
theorem QL {F:Nat->(Nat->Int)->A3} {vs:List V} {r:V×List Blk} (h:(AfZ F vs).sem=some r):∃ n f,Bz vs [Fh n f]∧(F n f).sem=some r:=by
 unfold AfZ at h;split at h
 ·obtain ⟨n,f,h1,h2⟩:=D2 h
  refine ⟨n,f,λS w cs hv=>?_,h2⟩;obtain ⟨c,l,rfl,q1,q2⟩:=hv;exact ⟨c,l,rfl,h1 S w c q1,q2⟩
 ·cases h
def okB (v:V):Bool:=match gB v with
 | some _=>true
 | none=>false
def edB (v:V):Bool:=match gB v with
 | some e=>e
 | none=>false
theorem AaP {v:V} (h:okB v=true):v=bV (edB v):=by
 unfold okB at h;unfold edB;split at h
 ·rename_i e he
  exact RS he
 ·cases h
def Wy (n:Nat) (f:Nat->Bool):V:=.sl 1 n λi=>bV (f i)
def apB {α:Type} (v:V) (F:Nat->(Nat->Bool)->T α):T α :=
 match Za v with
 | some (n,g)=>.br (Bi n λi=>okB (g i)) (F n λi=>edB (g i)) .fail
 | none=>.fail
theorem AcY {α:Type} {v:V} {F:Nat->(Nat->Bool)->T α} {r:α} (h:(apB v F).sem=some r) :
  ∃ n f,(∀ (S:Nat->Prop) (w:World) (c:Value),VR S w v noK c->VR S w (Wy n f) noK c)∧(F n f).sem=some r:=by
 unfold apB at h;split at h
 ·rename_i n g hg
  obtain ⟨h1,h2⟩:=Ac h;have h1:=AE.1 h1;refine ⟨n,_,λS w c hv=>?_,h2⟩;unfold Za at hg;split at hg
  ·rename_i s n' g'
   split at hg
   ·rename_i hs
    simp only [Option.some.injEq,Prod.mk.injEq] at hg;obtain ⟨rfl,rfl⟩:=hg;have hs:s=1:=Nat.eq_of_beq_eq_true hs;subst hs;obtain ⟨a,cap,e,hc,hb⟩:=hv;refine ⟨a,cap,e,hc,hb.imp id ?_⟩
    rintro ⟨b,o,ea,hel⟩
    refine ⟨b,o,ea,λi hi=>?_⟩;have:=hel i hi;rw [AaP (h1 i hi)] at this;exact this
   ·cases hg
  ·cases hg
 ·cases h
end Go.Proofs.YtkbafjceglhjhaaGreatDoor.Ed
