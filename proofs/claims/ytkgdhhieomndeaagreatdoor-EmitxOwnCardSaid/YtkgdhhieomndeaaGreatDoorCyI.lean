/-
  Layer 4: the parts of a cycle. No conditions.
-/
import Derived.Test.YtkgdhhieomndeaaGreatDoorCyB
import Derived.Test.YtkgdhhieomndeaaGreatDoorSyS
namespace Go.Proofs.YtkgdhhieomndeaaGreatDoor.Ed
open Go.Sy
open Int (ofNat)
def Dc (p:Nat->Bool) (i k:Nat):Int:=bif decide (k<i) then ofNat (An p k) else 0
def AG (p:Nat->Bool) (n k:Nat):Int:=bif decide (k<n) then (bif decide (An p k=An p n) then 0 else ofNat (An p k)) else 0
def Iq (h:Nat->Int) (i:Nat) (s:Int) (k:Nat):Int:=bif decide (k=i) then s else h k
theorem C3 (h:Nat->Int) (i:Nat) (s:Int):BH (λk=>iV (h k)) i (iV s)=λk=>iV (Iq h i s k):=by
 funext k;rw [Ej,show Nat.beq k i=decide (k=i) by rw [Bool.eq_iff_iff]; simp];unfold Iq;cases decide (k=i) <;> rfl
theorem Kv (p:Nat->Bool) (i:Nat):Iq (Dc p i) i (ofNat (An p i))=Dc p (i+1):=by
 funext k;unfold Iq Dc;by_cases h:k=i
 ·subst h; simp
 ·by_cases h2:k<i
  ·have:k<i+1:=by omega
   simp [h,h2,this]
  ·have:¬ k<i+1:=by omega
   simp [h,h2,this]
theorem LM (p:Nat->Bool) (i:Nat):Iq (Dc p (i+1)) i 0=Dc p i:=by
 funext k;unfold Iq Dc;by_cases h:k=i
 ·subst h; simp
 ·by_cases h2:k<i
  ·have:k<i+1:=by omega
   simp [h,h2,this]
  ·have:¬ k<i+1:=by omega
   simp [h,h2,this]
def dn:Nat->Int
 | 0=>-1
 | D+1=>ofNat D
theorem QM {D n:Nat} (h:D <= n) (hn:n <= 4611686018427387904):wr .i64 (AC (ofNat D) 1)=dn D:=by
 cases D with
 | zero=>rfl
 | succ D =>unfold wr AC IntKind.wrap dn;simp [IntKind.bits,IntKind.signed];omega
theorem Bg (p:Nat->Bool):∀ {i k:Nat},i <= k->An p i <= An p k
 | i,0,h=>by
  have:i=0:=by omega
  subst this;exact Nat.le_refl _
 | i,k+1,h=>by
  by_cases h2:i=k+1
  ·subst h2; exact Nat.le_refl _
  ·have:=Bg p (show i <= k by omega)
   refine Nat.le_trans this ?_;rw [show An p (k+1)=(match p k with | true=>An p k+1 | false=>An p k) from rfl]
   cases p k
   ·exact Nat.le_refl _
   ·exact Nat.le_succ _
theorem HF (p:Nat->Bool) (n D:Nat) (h:D <= n) (h1:∀ k,k<D->An p k ≠ An p n) (h2:∀ k,D <= k->k<n->An p k=An p n):Dc p D=AG p n:=by
 funext k;unfold Dc AG;by_cases h3:k<D
 ·have h4:k<n:=by omega
  simp [h3,h4,h1 k h3]
 ·by_cases h4:k<n
  ·simp [h3,h4,h2 k (by omega) h4]
  ·simp [h3,h4]
def MP (n:Nat) (f:Nat->E6):Lp:=⟨bmK 51 0 [0,1,5,6,13,14,15],2,bmK 51 0 [0,5,6],2,n+1⟩
def Qh (n:Nat) (f:Nat->E6) (s:Int) (i:Nat) (h:Nat->Int) (j:Nat->V):St:=⟨jsV 51 0 j [(0,.sl 6 n (λi=>eV (f i))),(1,.fn 112 []),(5,.ref 1),(6,iV s),(13,.sl 6 n (λi=>eV (f i))),(14,nV n),(15,nV i)],[.row 3 1 0 Aa,.row 3 1 n (λk=>iV (h k))]⟩
def Mr (n:Nat) (f:Nat->E6) (s:Int) (i:Nat) (h:Nat->Int):Ex×St:=(.ex 0,⟨jsV 51 0 Aa [(0,.sl 6 n (λi=>eV (f i))),(5,.ref 1),(6,iV s)],[.row 3 1 0 Aa,.row 3 1 n (λk=>iV (h k))]⟩)
noncomputable def J2 (L:LT):St->T (Ex×St):=λst=>AD tab ⟨Am tbY,L,Gl⟩ (Au Tryz.f116 0) 0 st
section
variable (L:LT) (n:Nat) (f:Nat->E6) (s:Int) (i:Nat) (h:Nat->Int)  (j:Nat->V)
include L n f s i h j
theorem Ajj (h0:ilt (ofNat i) (ofNat n)=false):Al (J2 L) (MP n f) (Qh n f s i h j)=some ((.ex 0),⟨jsV 51 0 Aa [(0,.sl 6 n (λi=>eV (f i))),(5,.ref 1),(6,iV s)],[.row 3 1 0 Aa,.row 3 1 n (λk=>iV (h k))]⟩):=by
 exact Ac (ks:=[kn h0]) (by kernel_rfl)
theorem Ajh (h0:ilt (ofNat i) (ofNat n)=true) (h1:Ao (ile 0 (ofNat i)) (ilt (ofNat i) (ofNat n))=true) (h2:nlt i n=true) (h3:AB (f i)=true):Al (J2 L) (MP n f) (Qh n f s i h j)=some (.nm,⟨jsV 51 0 Aa [(0,.sl 6 n (λi=>eV (f i))),(1,.fn 112 []),(5,.ref 1),(6,iV (wr .i64 (Ak s 1))),(13,.sl 6 n (λi=>eV (f i))),(14,nV n),(15,iV (wr .i64 (Ak (ofNat i) 1)))],[.row 3 1 0 Aa,.row 3 1 n (BH (λk=>iV (h k)) i (iV s))]⟩):=by
 exact Ac (ks:=[kn h0,kn h1,kn h1,kn h2,kn h3]) (by kernel_rfl)
theorem Aji (h0:ilt (ofNat i) (ofNat n)=true) (h1:Ao (ile 0 (ofNat i)) (ilt (ofNat i) (ofNat n))=true) (h2:nlt i n=true) (h3:AB (f i)=false):Al (J2 L) (MP n f) (Qh n f s i h j)=some (.nm,⟨jsV 51 0 Aa [(0,.sl 6 n (λi=>eV (f i))),(1,.fn 112 []),(5,.ref 1),(6,iV s),(13,.sl 6 n (λi=>eV (f i))),(14,nV n),(15,iV (wr .i64 (Ak (ofNat i) 1)))],[.row 3 1 0 Aa,.row 3 1 n (BH (λk=>iV (h k)) i (iV s))]⟩):=by
 exact Ac (ks:=[kn h0,kn h1,kn h1,kn h2,kn h3]) (by kernel_rfl)
end
def Ah3 (n:Nat) (f:Nat->E6) :Nat->V:=lkV A9 [(4,.ref 0),(10,.sl 6 n (λi=>eV (f i))),(11,nV n),(12,.ref 1)]
def G0 (n:Nat) (f:Nat->E6):Lp:=⟨bmK 51 0 [5,6,9],2,bmK 51 0 [5],2,n+1⟩
def K1 (n:Nat) (f:Nat->E6) (s d:Int) (h:Nat->Int) (j:Nat->V):St:=⟨jsV 51 0 j [(5,.ref 1),(6,iV s),(9,iV d)],[.row 3 1 0 Aa,.row 3 1 n (λk=>iV (h k))]⟩
def Le (n:Nat) (f:Nat->E6) (s d:Int) (h:Nat->Int):Ex×St:=(.ex 2,⟨jsV 51 0 Aa [(5,.ref 1)],[.row 3 1 0 Aa,.row 3 1 n (λk=>iV (h k))]⟩)
noncomputable def Hy (L:LT):St->T (Ex×St):=λst=>AD tab ⟨Am tbY,L,Gl⟩ (Au Tryz.f116 2) 2 st
section
variable (L:LT) (n:Nat) (f:Nat->E6) (s d:Int) (h:Nat->Int)  (j:Nat->V)
include L n f s d h j
theorem AiT (h0:ile 0 d=false):Al (Hy L) (G0 n f) (K1 n f s d h j)=some ((.ex 2),⟨jsV 51 0 Aa [(5,.ref 1)],[.row 3 1 0 Aa,.row 3 1 n (λk=>iV (h k))]⟩):=by
 exact Ac (ks:=[kn h0,kn h0,kn h0,kn h0,kn h0,kn h0,kn h0,kF]) (by kernel_rfl)
theorem AiS (h0:ile 0 d=true) (h1:Ao (ile 0 d) (ilt d (ofNat n))=true) (h2:nlt (toN d) n=true) (h3:ieq (h (toN d)) s=false):Al (Hy L) (G0 n f) (K1 n f s d h j)=some ((.ex 2),⟨jsV 51 0 Aa [(5,.ref 1)],[.row 3 1 0 Aa,.row 3 1 n (λk=>iV (h k))]⟩):=by
 exact Ac (ks:=[kn h0,kn h0,kn h0,kn h1,kn h0,kn h2,kn h0,kn h0,kn h0,kn h3]) (by kernel_rfl)
theorem AiR (h0:ile 0 d=true) (h1:Ao (ile 0 d) (ilt d (ofNat n))=true) (h2:nlt (toN d) n=true) (h3:ieq (h (toN d)) s=true):Al (Hy L) (G0 n f) (K1 n f s d h j)=some (.nm,⟨jsV 51 0 Aa [(5,.ref 1),(6,iV s),(9,iV (wr .i64 (AC d 1)))],[.row 3 1 0 Aa,.row 3 1 n (BH (λk=>iV (h k)) (toN d) (iV 0))]⟩):=by
 exact Ac (ks:=[kn h0,kn h0,kn h0,kn h1,kn h0,kn h2,kn h0,kn h0,kn h0,kn h3,kn h1,kn h2]) (by kernel_rfl)
end
def AfY (n:Nat) (f:Nat->E6) (s:Int) (i:Nat) (h:Nat->Int):Nat->V:=lkU 2251766527688094 [(0,.sl 6 n (λi=>eV (f i))),(30,iV s),(31,bV (ilt 0 s)),(32,.sl 6 n (λi=>eV (f i))),(33,nV n),(34,iV (wr .i64 (AC (ofNat n) 1)))]
theorem AhZ (L:LT) (p0:PT) (n:Nat) (f:Nat->E6) (s:Int) (i:Nat) (h:Nat->Int) (h0:E8 8 (ofNat n) (ofNat n)=true) (h1:ilt 0 s=false) (hp0:p0 (J2 (onP 0 p0 (Mr n f s i h) L)) (Qh n f 0 0 (λ_=>0) (Ah3 n f ))=true):(Ay (Ai tab ⟨Am tbY,onP 0 p0 (Mr n f s i h) L,Gl⟩ Tryz.f116 [AS n f,.fn 112 []] [])).sem=some ((.ref 0),[.row 3 1 n (λk=>iV (h k))]):=by
 exact Ac (ks:=[kn h0,kn hp0,kn h1]) (by kernel_rfl)
theorem Aia (L:LT) (p0:PT) (p2:PT) (n:Nat) (f:Nat->E6) (s d:Int) (i:Nat) (h g:Nat->Int) (h0:E8 8 (ofNat n) (ofNat n)=true) (h1:ilt 0 s=true) (hp0:p0 (J2 (onP 0 p0 (Mr n f s i h) (onP 2 p2 (Le n f s d g) L))) (Qh n f 0 0 (λ_=>0) (Ah3 n f ))=true) (hp2:p2 (Hy (onP 0 p0 (Mr n f s i h) (onP 2 p2 (Le n f s d g) L))) (K1 n f s (wr .i64 (AC (ofNat n) 1)) h (AfY n f s i h))=true):(Ay (Ai tab ⟨Am tbY,onP 0 p0 (Mr n f s i h) (onP 2 p2 (Le n f s d g) L),Gl⟩ Tryz.f116 [AS n f,.fn 112 []] [])).sem=some ((.ref 0),[.row 3 1 n (λk=>iV (g k))]):=by
 exact Ac (ks:=[kn h0,kn hp0,kn h1,kn hp2]) (by kernel_rfl)
def MQ (n:Nat) (f:Nat->E6):Lp:=⟨bmK 51 0 [0,1,5,6,13,14,15],2,bmK 51 0 [0,5,6],2,n+1⟩
def Qi (n:Nat) (f:Nat->E6) (s:Int) (i:Nat) (h:Nat->Int) (j:Nat->V):St:=⟨jsV 51 0 j [(0,.sl 6 n (λi=>eV (f i))),(1,.fn 113 []),(5,.ref 1),(6,iV s),(13,.sl 6 n (λi=>eV (f i))),(14,nV n),(15,nV i)],[.row 3 1 0 Aa,.row 3 1 n (λk=>iV (h k))]⟩
def Ms (n:Nat) (f:Nat->E6) (s:Int) (i:Nat) (h:Nat->Int):Ex×St:=(.ex 0,⟨jsV 51 0 Aa [(0,.sl 6 n (λi=>eV (f i))),(5,.ref 1),(6,iV s)],[.row 3 1 0 Aa,.row 3 1 n (λk=>iV (h k))]⟩)
noncomputable def J3 (L:LT):St->T (Ex×St):=λst=>AD tab ⟨Am tbY,L,Gl⟩ (Au Tryz.f116 0) 0 st
section
variable (L:LT) (n:Nat) (f:Nat->E6) (s:Int) (i:Nat) (h:Nat->Int)  (j:Nat->V)
include L n f s i h j
theorem Ajm (h0:ilt (ofNat i) (ofNat n)=false):Al (J3 L) (MQ n f) (Qi n f s i h j)=some ((.ex 0),⟨jsV 51 0 Aa [(0,.sl 6 n (λi=>eV (f i))),(5,.ref 1),(6,iV s)],[.row 3 1 0 Aa,.row 3 1 n (λk=>iV (h k))]⟩):=by
 exact Ac (ks:=[kn h0]) (by kernel_rfl)
theorem Ajk (h0:ilt (ofNat i) (ofNat n)=true) (h1:Ao (ile 0 (ofNat i)) (ilt (ofNat i) (ofNat n))=true) (h2:nlt i n=true) (h3:AN (f i)=true):Al (J3 L) (MQ n f) (Qi n f s i h j)=some (.nm,⟨jsV 51 0 Aa [(0,.sl 6 n (λi=>eV (f i))),(1,.fn 113 []),(5,.ref 1),(6,iV (wr .i64 (Ak s 1))),(13,.sl 6 n (λi=>eV (f i))),(14,nV n),(15,iV (wr .i64 (Ak (ofNat i) 1)))],[.row 3 1 0 Aa,.row 3 1 n (BH (λk=>iV (h k)) i (iV s))]⟩):=by
 exact Ac (ks:=[kn h0,kn h1,kn h1,kn h2,kn h3]) (by kernel_rfl)
theorem Ajl (h0:ilt (ofNat i) (ofNat n)=true) (h1:Ao (ile 0 (ofNat i)) (ilt (ofNat i) (ofNat n))=true) (h2:nlt i n=true) (h3:AN (f i)=false):Al (J3 L) (MQ n f) (Qi n f s i h j)=some (.nm,⟨jsV 51 0 Aa [(0,.sl 6 n (λi=>eV (f i))),(1,.fn 113 []),(5,.ref 1),(6,iV s),(13,.sl 6 n (λi=>eV (f i))),(14,nV n),(15,iV (wr .i64 (Ak (ofNat i) 1)))],[.row 3 1 0 Aa,.row 3 1 n (BH (λk=>iV (h k)) i (iV s))]⟩):=by
 exact Ac (ks:=[kn h0,kn h1,kn h1,kn h2,kn h3]) (by kernel_rfl)
end
def Ah4 (n:Nat) (f:Nat->E6) :Nat->V:=lkV A9 [(4,.ref 0),(10,.sl 6 n (λi=>eV (f i))),(11,nV n),(12,.ref 1)]
def G1 (n:Nat) (f:Nat->E6):Lp:=⟨bmK 51 0 [5,6,9],2,bmK 51 0 [5],2,n+1⟩
def K2 (n:Nat) (f:Nat->E6) (s d:Int) (h:Nat->Int) (j:Nat->V):St:=⟨jsV 51 0 j [(5,.ref 1),(6,iV s),(9,iV d)],[.row 3 1 0 Aa,.row 3 1 n (λk=>iV (h k))]⟩
def Lf (n:Nat) (f:Nat->E6) (s d:Int) (h:Nat->Int):Ex×St:=(.ex 2,⟨jsV 51 0 Aa [(5,.ref 1)],[.row 3 1 0 Aa,.row 3 1 n (λk=>iV (h k))]⟩)
noncomputable def Hz (L:LT):St->T (Ex×St):=λst=>AD tab ⟨Am tbY,L,Gl⟩ (Au Tryz.f116 2) 2 st
section
variable (L:LT) (n:Nat) (f:Nat->E6) (s d:Int) (h:Nat->Int)  (j:Nat->V)
include L n f s d h j
theorem AiW (h0:ile 0 d=false):Al (Hz L) (G1 n f) (K2 n f s d h j)=some ((.ex 2),⟨jsV 51 0 Aa [(5,.ref 1)],[.row 3 1 0 Aa,.row 3 1 n (λk=>iV (h k))]⟩):=by
 exact Ac (ks:=[kn h0,kn h0,kn h0,kn h0,kn h0,kn h0,kn h0,kF]) (by kernel_rfl)
theorem AiV (h0:ile 0 d=true) (h1:Ao (ile 0 d) (ilt d (ofNat n))=true) (h2:nlt (toN d) n=true) (h3:ieq (h (toN d)) s=false):Al (Hz L) (G1 n f) (K2 n f s d h j)=some ((.ex 2),⟨jsV 51 0 Aa [(5,.ref 1)],[.row 3 1 0 Aa,.row 3 1 n (λk=>iV (h k))]⟩):=by
 exact Ac (ks:=[kn h0,kn h0,kn h0,kn h1,kn h0,kn h2,kn h0,kn h0,kn h0,kn h3]) (by kernel_rfl)
theorem AiU (h0:ile 0 d=true) (h1:Ao (ile 0 d) (ilt d (ofNat n))=true) (h2:nlt (toN d) n=true) (h3:ieq (h (toN d)) s=true):Al (Hz L) (G1 n f) (K2 n f s d h j)=some (.nm,⟨jsV 51 0 Aa [(5,.ref 1),(6,iV s),(9,iV (wr .i64 (AC d 1)))],[.row 3 1 0 Aa,.row 3 1 n (BH (λk=>iV (h k)) (toN d) (iV 0))]⟩):=by
 exact Ac (ks:=[kn h0,kn h0,kn h0,kn h1,kn h0,kn h2,kn h0,kn h0,kn h0,kn h3,kn h1,kn h2]) (by kernel_rfl)
end
def AfZ (n:Nat) (f:Nat->E6) (s:Int) (i:Nat) (h:Nat->Int):Nat->V:=lkU 2251766527688094 [(0,.sl 6 n (λi=>eV (f i))),(30,iV s),(31,bV (ilt 0 s)),(32,.sl 6 n (λi=>eV (f i))),(33,nV n),(34,iV (wr .i64 (AC (ofNat n) 1)))]
theorem Aib (L:LT) (p0:PT) (n:Nat) (f:Nat->E6) (s:Int) (i:Nat) (h:Nat->Int) (h0:E8 8 (ofNat n) (ofNat n)=true) (h1:ilt 0 s=false) (hp0:p0 (J3 (onP 0 p0 (Ms n f s i h) L)) (Qi n f 0 0 (λ_=>0) (Ah4 n f ))=true):(Ay (Ai tab ⟨Am tbY,onP 0 p0 (Ms n f s i h) L,Gl⟩ Tryz.f116 [AS n f,.fn 113 []] [])).sem=some ((.ref 0),[.row 3 1 n (λk=>iV (h k))]):=by
 exact Ac (ks:=[kn h0,kn hp0,kn h1]) (by kernel_rfl)
theorem Aic (L:LT) (p0:PT) (p2:PT) (n:Nat) (f:Nat->E6) (s d:Int) (i:Nat) (h g:Nat->Int) (h0:E8 8 (ofNat n) (ofNat n)=true) (h1:ilt 0 s=true) (hp0:p0 (J3 (onP 0 p0 (Ms n f s i h) (onP 2 p2 (Lf n f s d g) L))) (Qi n f 0 0 (λ_=>0) (Ah4 n f ))=true) (hp2:p2 (Hz (onP 0 p0 (Ms n f s i h) (onP 2 p2 (Lf n f s d g) L))) (K2 n f s (wr .i64 (AC (ofNat n) 1)) h (AfZ n f s i h))=true):(Ay (Ai tab ⟨Am tbY,onP 0 p0 (Ms n f s i h) (onP 2 p2 (Lf n f s d g) L),Gl⟩ Tryz.f116 [AS n f,.fn 113 []] [])).sem=some ((.ref 0),[.row 3 1 n (λk=>iV (g k))]):=by
 exact Ac (ks:=[kn h0,kn hp0,kn h1,kn hp2]) (by kernel_rfl)
theorem Wc (L:LT) (n:Nat) (f:Nat->E6) (hn:n <= 4611686018427387904):∀ (e i:Nat) (j:Nat->V) (q:Nat),n=i+e->e<q ->
  (A3 (J2 L) (MP n f) q (Qh n f (ofNat (An (λk=>AB (f k)) i)) i (Dc (λk=>AB (f k)) i) j)).sem=some (Mr n f (ofNat (An (λk=>AB (f k)) n)) n (Dc (λk=>AB (f k)) n))
 | 0,i,j,q+1,h,_=>by
  have:n=i:=by omega
  subst this;exact Ae (Ajj L n f _ _ _ j (Aw (Nat.le_refl _)))
 | e+1,i,j,q+1,h,h2=>by
  have hc:=Bm (λk=>AB (f k)) i;have hl:ilt (ofNat i) (ofNat n)=true:=ofNat_lt (by omega);have hb:Ao (ile 0 (ofNat i)) (ilt (ofNat i) (ofNat n))=true:=by rw [AX,hl]; rfl
  have hk:nlt i n=true:=by simpa [nlt] using (show i<n by omega)
  cases hp:AB (f i) with
  | true =>
   rw [Ae (Ajh L n f _ i _ j hl hb hk hp),A6,Ap (show i<n by omega) hn,Ap (show An (λk=>AB (f k)) i<n by omega) hn,
    show An (λk=>AB (f k)) i+1=An (λk=>AB (f k)) (i+1) by rw [An,hp],C3,Kv]
   exact Wc L n f hn e (i+1) Aa q (by omega) (by omega)
  | false =>
   rw [Ae (Aji L n f _ i _ j hl hb hk hp),A6,Ap (show i<n by omega) hn,C3,Kv,
    show An (λk=>AB (f k)) i=An (λk=>AB (f k)) (i+1) by rw [An,hp]]
   exact Wc L n f hn e (i+1) Aa q (by omega) (by omega)
theorem Abs (L:LT) (n:Nat) (f:Nat->E6) (hn:n <= 4611686018427387904):∀ (D:Nat) (j:Nat->V) (q:Nat),D <= n->D<q->(∀ k,D <= k->k<n->An (λk=>AB (f k)) k=An (λk=>AB (f k)) n) ->
  (A3 (Hy L) (G0 n f) q (K1 n f (ofNat (An (λk=>AB (f k)) n)) (dn D) (Dc (λk=>AB (f k)) D) j)).sem=some (Le n f 0 0 (AG (λk=>AB (f k)) n))
 | 0,j,q+1,h,_,hb=>by
  rw [<- HF (λk=>AB (f k)) n 0 h (λk hk=>absurd hk (Nat.not_lt_zero _)) hb];exact Ae (AiT L n f _ _ _ j rfl)
 | D+1,j,q+1,h,h2,hb=>by
  have hl:ilt (ofNat D) (ofNat n)=true:=ofNat_lt (by omega);have hb1:Ao (ile 0 (ofNat D)) (ilt (ofNat D) (ofNat n))=true:=by rw [AX,hl]; rfl
  have hk:nlt D n=true:=by simpa [nlt] using (show D<n by omega)
  have hr:Dc (λk=>AB (f k)) (D+1) D=ofNat (An (λk=>AB (f k)) D):=by simp [Dc]
  cases hp:ieq (Dc (λk=>AB (f k)) (D+1) D) (ofNat (An (λk=>AB (f k)) n)) with
  | true =>
   have he:An (λk=>AB (f k)) D=An (λk=>AB (f k)) n:=by
    rw [hr] at hp;have h7:((An (λk=>AB (f k)) D:Nat):Int)=((An (λk=>AB (f k)) n:Nat):Int):=by simpa [ieq] using hp
    omega
   rw [show dn (D+1)=ofNat D from rfl,Ae (AiR L n f _ _ _ j (AX D) hb1 hk hp),A6,QM (show D <= n by omega) hn,C3,show toN (ofNat D)=D from rfl,LM];exact Abs L n f hn D Aa q (by omega) (by omega) λk h3 h4=>by
    by_cases h5:k=D
    ·subst h5; exact he
    ·exact hb k (by omega) h4
  | false =>
   have he:An (λk=>AB (f k)) D ≠ An (λk=>AB (f k)) n:=λe=>by rw [hr,e] at hp; simp [ieq] at hp
   rw [<- HF (λk=>AB (f k)) n (D+1) h (λk hk e=>he (by have:=Bg (λk=>AB (f k)) (show k <= D by omega); have:=Bg (λk=>AB (f k)) (show D <= n by omega); omega)) hb];exact Ae (AiS L n f _ _ _ j (AX D) hb1 hk hp)
theorem Wd (L:LT) (n:Nat) (f:Nat->E6) (hn:n <= 4611686018427387904):∀ (e i:Nat) (j:Nat->V) (q:Nat),n=i+e->e<q ->
  (A3 (J3 L) (MQ n f) q (Qi n f (ofNat (An (λk=>AN (f k)) i)) i (Dc (λk=>AN (f k)) i) j)).sem=some (Ms n f (ofNat (An (λk=>AN (f k)) n)) n (Dc (λk=>AN (f k)) n))
 | 0,i,j,q+1,h,_=>by
  have:n=i:=by omega
  subst this;exact Ae (Ajm L n f _ _ _ j (Aw (Nat.le_refl _)))
 | e+1,i,j,q+1,h,h2=>by
  have hc:=Bm (λk=>AN (f k)) i;have hl:ilt (ofNat i) (ofNat n)=true:=ofNat_lt (by omega);have hb:Ao (ile 0 (ofNat i)) (ilt (ofNat i) (ofNat n))=true:=by rw [AX,hl]; rfl
  have hk:nlt i n=true:=by simpa [nlt] using (show i<n by omega)
  cases hp:AN (f i) with
  | true =>
   rw [Ae (Ajk L n f _ i _ j hl hb hk hp),A6,Ap (show i<n by omega) hn,Ap (show An (λk=>AN (f k)) i<n by omega) hn,
    show An (λk=>AN (f k)) i+1=An (λk=>AN (f k)) (i+1) by rw [An,hp],C3,Kv]
   exact Wd L n f hn e (i+1) Aa q (by omega) (by omega)
  | false =>
   rw [Ae (Ajl L n f _ i _ j hl hb hk hp),A6,Ap (show i<n by omega) hn,C3,Kv,
    show An (λk=>AN (f k)) i=An (λk=>AN (f k)) (i+1) by rw [An,hp]]
   exact Wd L n f hn e (i+1) Aa q (by omega) (by omega)
theorem Abt (L:LT) (n:Nat) (f:Nat->E6) (hn:n <= 4611686018427387904):∀ (D:Nat) (j:Nat->V) (q:Nat),D <= n->D<q->(∀ k,D <= k->k<n->An (λk=>AN (f k)) k=An (λk=>AN (f k)) n) ->
  (A3 (Hz L) (G1 n f) q (K2 n f (ofNat (An (λk=>AN (f k)) n)) (dn D) (Dc (λk=>AN (f k)) D) j)).sem=some (Lf n f 0 0 (AG (λk=>AN (f k)) n))
 | 0,j,q+1,h,_,hb=>by
  rw [<- HF (λk=>AN (f k)) n 0 h (λk hk=>absurd hk (Nat.not_lt_zero _)) hb];exact Ae (AiW L n f _ _ _ j rfl)
 | D+1,j,q+1,h,h2,hb=>by
  have hl:ilt (ofNat D) (ofNat n)=true:=ofNat_lt (by omega);have hb1:Ao (ile 0 (ofNat D)) (ilt (ofNat D) (ofNat n))=true:=by rw [AX,hl]; rfl
  have hk:nlt D n=true:=by simpa [nlt] using (show D<n by omega)
  have hr:Dc (λk=>AN (f k)) (D+1) D=ofNat (An (λk=>AN (f k)) D):=by simp [Dc]
  cases hp:ieq (Dc (λk=>AN (f k)) (D+1) D) (ofNat (An (λk=>AN (f k)) n)) with
  | true =>
   have he:An (λk=>AN (f k)) D=An (λk=>AN (f k)) n:=by
    rw [hr] at hp;have h7:((An (λk=>AN (f k)) D:Nat):Int)=((An (λk=>AN (f k)) n:Nat):Int):=by simpa [ieq] using hp
    omega
   rw [show dn (D+1)=ofNat D from rfl,Ae (AiU L n f _ _ _ j (AX D) hb1 hk hp),A6,QM (show D <= n by omega) hn,C3,show toN (ofNat D)=D from rfl,LM];exact Abt L n f hn D Aa q (by omega) (by omega) λk h3 h4=>by
    by_cases h5:k=D
    ·subst h5; exact he
    ·exact hb k (by omega) h4
  | false =>
   have he:An (λk=>AN (f k)) D ≠ An (λk=>AN (f k)) n:=λe=>by rw [hr,e] at hp; simp [ieq] at hp
   rw [<- HF (λk=>AN (f k)) n (D+1) h (λk hk e=>he (by have:=Bg (λk=>AN (f k)) (show k <= D by omega); have:=Bg (λk=>AN (f k)) (show D <= n by omega); omega)) hb];exact Ae (AiV L n f _ _ _ j (AX D) hb1 hk hp)
def Ws:List V->AE
 | [v,.fn g []]=>apL v λn f=>.br (E8 8 (ofNat n) (ofNat n)) (match Nat.beq g 112,Nat.beq g 113 with
  | true,_=>.leaf (.ref 0,[.row 3 1 n λk=>iV (AG (λk=>AB (f k)) n k)])
  | false,true=>.leaf (.ref 0,[.row 3 1 n λk=>iV (AG (λk=>AN (f k)) n k)])
  | false,false=>.fail) .fail
 | _=>.fail
theorem Wk (p:Nat->Bool):Dc p 0=λ_=>0:=by
 funext k;simp [Dc]
theorem RU (p:Nat->Bool) (n:Nat) (h:An p n=0):Dc p n=AG p n:=by
 funext k;unfold Dc AG;by_cases h3:k<n
 ·have:=Bg p (show k <= n by omega)
  have h4:An p k=0:=by omega
  simp [h3,h,h4]
 ·simp [h3]
theorem Aee (n:Nat) (f:Nat->E6) (hm:E8 8 (ofNat n) (ofNat n)=true) :
  (Ay (Ai tab (AA Gl tbY [(0,MP n f),(2,G0 n f)]) Tryz.f116 [AS n f,.fn 112 []] [])).sem=some (.ref 0,[.row 3 1 n λk=>iV (AG (λk=>AB (f k)) n k)]):=by
 have hn:n <= 4611686018427387904:=by
  simp only [E8,Bool.and_eq_true,decide_eq_true_eq] at hm;have:=hm.2.2.1;simp only [Int.ofNat_eq_natCast] at this;omega
 have hL:=AQ [(0,MP n f),(2,G0 n f)];have h0:=λL j=>Wc L n f hn n 0 j (n+1) (by omega) (by omega);have h2:=λL j=>Abs L n f hn n j (n+1) (Nat.le_refl _) (by omega) (λk h1 h2=>by omega);rw [Wk] at h0;rw [<- QM (Nat.le_refl n) hn] at h2;cases hs:ilt 0 (ofNat (An (λk=>AB (f k)) n)) with
 | true=>exact AP (AI (AI hL hL) hL) _ (Aia _ _ _ n f _ 0 n (Dc (λk=>AB (f k)) n) (AG (λk=>AB (f k)) n) hm hs (Az (h0 _ _)) (Az (h2 _ _)))
 | false =>rw [<- RU (λk=>AB (f k)) n (by simpa [ilt] using hs)];exact AP (AI hL hL) _ (AhZ _ _ n f _ n _ hm hs (Az (h0 _ _)))
theorem Aef (n:Nat) (f:Nat->E6) (hm:E8 8 (ofNat n) (ofNat n)=true) :
  (Ay (Ai tab (AA Gl tbY [(0,MQ n f),(2,G1 n f)]) Tryz.f116 [AS n f,.fn 113 []] [])).sem=some (.ref 0,[.row 3 1 n λk=>iV (AG (λk=>AN (f k)) n k)]):=by
 have hn:n <= 4611686018427387904:=by
  simp only [E8,Bool.and_eq_true,decide_eq_true_eq] at hm;have:=hm.2.2.1;simp only [Int.ofNat_eq_natCast] at this;omega
 have hL:=AQ [(0,MQ n f),(2,G1 n f)];have h0:=λL j=>Wd L n f hn n 0 j (n+1) (by omega) (by omega);have h2:=λL j=>Abt L n f hn n j (n+1) (Nat.le_refl _) (by omega) (λk h1 h2=>by omega);rw [Wk] at h0;rw [<- QM (Nat.le_refl n) hn] at h2;cases hs:ilt 0 (ofNat (An (λk=>AN (f k)) n)) with
 | true=>exact AP (AI (AI hL hL) hL) _ (Aic _ _ _ n f _ 0 n (Dc (λk=>AN (f k)) n) (AG (λk=>AN (f k)) n) hm hs (Az (h0 _ _)) (Az (h2 _ _)))
 | false =>rw [<- RU (λk=>AN (f k)) n (by simpa [ilt] using hs)];exact AP (AI hL hL) _ (Aib _ _ n f _ n _ hm hs (Az (h0 _ _)))
theorem p92:Ax Tryz.prog Gl 116 Ws:=by
 refine Aj A7 mixed Tryz.func116 (by kernel_rfl) (by kernel_rfl) λvs v h' h=>?_;unfold Ws at h;split at h
 ·rename_i u g
  obtain ⟨n,f,ha,h1⟩:=Co h;obtain ⟨hm,hq⟩:=Ad h1;clear h h1;have hA:Bj [u,.fn g []] [AS n f,.fn g []]:=λS w cs hv=>by
   obtain ⟨c,l,rfl,q1,q2⟩:=hv;exact ⟨c,l,rfl,ha S w c q1,q2⟩
  split at hq
  ·rename_i h1
   have h1:=Nat.eq_of_beq_eq_true h1;subst h1;have:=Ab hq;simp only [Prod.mk.injEq] at this;obtain ⟨rfl,rfl⟩:=this;have hx:=AH NV [(0,MP n f),(2,G0 n f)];exact ⟨_,AA Gl tbY [(0,MP n f),(2,G0 n f)],_,hA,rfl,hx.1,hx.2,Aee n f hm,Av.refl _⟩
  ·rename_i h1
   have h1:=Nat.eq_of_beq_eq_true h1;subst h1;have:=Ab hq;simp only [Prod.mk.injEq] at this;obtain ⟨rfl,rfl⟩:=this;have hx:=AH NV [(0,MQ n f),(2,G1 n f)];exact ⟨_,AA Gl tbY [(0,MQ n f),(2,G1 n f)],_,hA,rfl,hx.1,hx.2,Aef n f hm,Av.refl _⟩
  ·cases hq
 ·cases h
end Go.Proofs.YtkgdhhieomndeaaGreatDoor.Ed
namespace Go.Proofs.YtkgdhhieomndeaaGreatDoor.Ed
open Go.Sy
end Go.Proofs.YtkgdhhieomndeaaGreatDoor.Ed
namespace Go.Proofs.YtkgdhhieomndeaaGreatDoor.Ed
open Go.Sy
def okI (v:V):Bool:=match gI v with
 | some _=>true
 | none=>false
def edI (v:V):Int:=match gI v with
 | some e=>e
 | none=>0
theorem KA {v:V} (h:okI v=true):v=iV (edI v):=by
 unfold okI at h;unfold edI;split at h
 ·rename_i e he
  exact G6 he
 ·cases h
def EV (n:Nat) (f:Nat->Int):V:=.sl 1 n λi=>iV (f i)
def ZR:V->Option (Nat×(Nat->V))
 | .sl s n g=>match Nat.beq s 1 with
  | true=>some (n,g)
  | false=>none
 | _=>none
def apI {α:Type} (v:V) (F:Nat->(Nat->Int)->T α):T α :=
 match ZR v with
 | some (n,g)=>.br (A4 n λi=>okI (g i)) (F n λi=>edI (g i)) .fail
 | none=>.fail
theorem H5 {α:Type} {v:V} {F:Nat->(Nat->Int)->T α} {r:α} (h:(apI v F).sem=some r) :
  ∃ n f,(∀ (S:Nat->Prop) (w:World) (c:Value),VR S w v noK c->VR S w (EV n f) noK c)∧(F n f).sem=some r:=by
 unfold apI at h;split at h
 ·rename_i n g hg
  obtain ⟨h1,h2⟩:=Ad h;have h1:=A0.1 h1;refine ⟨n,_,λS w c hv=>?_,h2⟩;unfold ZR at hg;split at hg
  ·rename_i s n' g'
   split at hg
   ·rename_i hs
    simp only [Option.some.injEq,Prod.mk.injEq] at hg;obtain ⟨rfl,rfl⟩:=hg;have hs:s=1:=Nat.eq_of_beq_eq_true hs;subst hs;obtain ⟨a,cap,e,hc,hb⟩:=hv;refine ⟨a,cap,e,hc,hb.imp id ?_⟩
    rintro ⟨b,o,ea,hel⟩
    refine ⟨b,o,ea,λi hi=>?_⟩;have:=hel i hi;rw [KA (h1 i hi)] at this;exact this
   ·cases hg
  ·cases hg
 ·cases h
def Aqg (F:Nat->(Nat->Int)->Nat->(Nat->Int)->AE):List V->AE
 | [v,u]=>apI v λn f=>apI u λm g=>F n f m g
 | _=>.fail
def Agu (F:Nat->(Nat->Int)->AE):List V->AE
 | [v]=>apI v F
 | _=>.fail
theorem Rb {F:Nat->(Nat->Int)->AE} {vs:List V} {r:V×List Blk} (h:(Agu F vs).sem=some r):∃ n f,Bj vs [EV n f]∧(F n f).sem=some r:=by
 unfold Agu at h;split at h
 ·obtain ⟨n,f,h1,h2⟩:=H5 h
  refine ⟨n,f,λS w cs hv=>?_,h2⟩;obtain ⟨c,l,rfl,q1,q2⟩:=hv;exact ⟨c,l,rfl,h1 S w c q1,q2⟩
 ·cases h
def okB (v:V):Bool:=match gB v with
 | some _=>true
 | none=>false
def edB (v:V):Bool:=match gB v with
 | some e=>e
 | none=>false
theorem AbS {v:V} (h:okB v=true):v=bV (edB v):=by
 unfold okB at h;unfold edB;split at h
 ·rename_i e he
  exact S6 he
 ·cases h
def Xs (n:Nat) (f:Nat->Bool):V:=.sl 1 n λi=>bV (f i)
def apB {α:Type} (v:V) (F:Nat->(Nat->Bool)->T α):T α :=
 match ZR v with
 | some (n,g)=>.br (A4 n λi=>okB (g i)) (F n λi=>edB (g i)) .fail
 | none=>.fail
theorem AdO {α:Type} {v:V} {F:Nat->(Nat->Bool)->T α} {r:α} (h:(apB v F).sem=some r) :
  ∃ n f,(∀ (S:Nat->Prop) (w:World) (c:Value),VR S w v noK c->VR S w (Xs n f) noK c)∧(F n f).sem=some r:=by
 unfold apB at h;split at h
 ·rename_i n g hg
  obtain ⟨h1,h2⟩:=Ad h;have h1:=A0.1 h1;refine ⟨n,_,λS w c hv=>?_,h2⟩;unfold ZR at hg;split at hg
  ·rename_i s n' g'
   split at hg
   ·rename_i hs
    simp only [Option.some.injEq,Prod.mk.injEq] at hg;obtain ⟨rfl,rfl⟩:=hg;have hs:s=1:=Nat.eq_of_beq_eq_true hs;subst hs;obtain ⟨a,cap,e,hc,hb⟩:=hv;refine ⟨a,cap,e,hc,hb.imp id ?_⟩
    rintro ⟨b,o,ea,hel⟩
    refine ⟨b,o,ea,λi hi=>?_⟩;have:=hel i hi;rw [AbS (h1 i hi)] at this;exact this
   ·cases hg
  ·cases hg
 ·cases h
end Go.Proofs.YtkgdhhieomndeaaGreatDoor.Ed
