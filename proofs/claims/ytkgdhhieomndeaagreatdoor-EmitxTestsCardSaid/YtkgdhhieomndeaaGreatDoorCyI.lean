/-
  Layer 4: the parts of a cycle. No conditions.
-/
import Derived.Test.YtkgdhhieomndeaaGreatDoorCyB
import Derived.Test.YtkgdhhieomndeaaGreatDoorSyU
namespace Go.Proofs.YtkgdhhieomndeaaGreatDoor.Ed
open Go.Sy
open Int (ofNat)
def CM (p:Nat->Bool) (i k:Nat):Int:=bif decide (k<i) then ofNat (An p k) else 0
def AG (p:Nat->Bool) (n k:Nat):Int:=bif decide (k<n) then (bif decide (An p k=An p n) then 0 else ofNat (An p k)) else 0
def HI (h:Nat->Int) (i:Nat) (s:Int) (k:Nat):Int:=bif decide (k=i) then s else h k
theorem Cn (h:Nat->Int) (i:Nat) (s:Int):BT (λk=>iV (h k)) i (iV s)=λk=>iV (HI h i s k):=by
 funext k;rw [Fw,show Nat.beq k i=decide (k=i) by rw [Bool.eq_iff_iff]; simp];unfold HI;cases decide (k=i) <;> rfl
theorem Kb (p:Nat->Bool) (i:Nat):HI (CM p i) i (ofNat (An p i))=CM p (i+1):=by
 funext k;unfold HI CM;by_cases h:k=i
 ·subst h; simp
 ·by_cases h2:k<i
  ·have:k<i+1:=by omega
   simp [h,h2,this]
  ·have:¬ k<i+1:=by omega
   simp [h,h2,this]
theorem Lv (p:Nat->Bool) (i:Nat):HI (CM p (i+1)) i 0=CM p i:=by
 funext k;unfold HI CM;by_cases h:k=i
 ·subst h; simp
 ·by_cases h2:k<i
  ·have:k<i+1:=by omega
   simp [h,h2,this]
  ·have:¬ k<i+1:=by omega
   simp [h,h2,this]
def dn:Nat->Int
 | 0=>-1
 | D+1=>ofNat D
theorem Q1 {D n:Nat} (h:D <= n) (hn:n <= 4611686018427387904):wr .i64 (A5 (ofNat D) 1)=dn D:=by
 cases D with
 | zero=>rfl
 | succ D =>unfold wr A5 IntKind.wrap dn;simp [IntKind.bits,IntKind.signed];omega
theorem Bb (p:Nat->Bool):∀ {i k:Nat},i <= k->An p i <= An p k
 | i,0,h=>by
  have:i=0:=by omega
  subst this;exact Nat.le_refl _
 | i,k+1,h=>by
  by_cases h2:i=k+1
  ·subst h2; exact Nat.le_refl _
  ·have:=Bb p (show i <= k by omega)
   refine Nat.le_trans this ?_;rw [show An p (k+1)=(match p k with | true=>An p k+1 | false=>An p k) from rfl]
   cases p k
   ·exact Nat.le_refl _
   ·exact Nat.le_succ _
theorem Hm (p:Nat->Bool) (n D:Nat) (h:D <= n) (h1:∀ k,k<D->An p k ≠ An p n) (h2:∀ k,D <= k->k<n->An p k=An p n):CM p D=AG p n:=by
 funext k;unfold CM AG;by_cases h3:k<D
 ·have h4:k<n:=by omega
  simp [h3,h4,h1 k h3]
 ·by_cases h4:k<n
  ·simp [h3,h4,h2 k (by omega) h4]
  ·simp [h3,h4]
def My (n:Nat) (f:Nat->E6):Lp:=⟨bmK 51 0 [0,1,5,6,13,14,15],2,bmK 51 0 [0,5,6],2,n+1⟩
def PF (n:Nat) (f:Nat->E6) (s:Int) (i:Nat) (h:Nat->Int) (j:Nat->V):St:=⟨jsV 51 0 j [(0,.sl 6 n (λi=>eV (f i))),(1,.fn 112 []),(5,.ref 1),(6,iV s),(13,.sl 6 n (λi=>eV (f i))),(14,nV n),(15,nV i)],[.row 3 1 0 Aa,.row 3 1 n (λk=>iV (h k))]⟩
def LY (n:Nat) (f:Nat->E6) (s:Int) (i:Nat) (h:Nat->Int):Ex×St:=(.ex 0,⟨jsV 51 0 Aa [(0,.sl 6 n (λi=>eV (f i))),(5,.ref 1),(6,iV s)],[.row 3 1 0 Aa,.row 3 1 n (λk=>iV (h k))]⟩)
noncomputable def Jb (L:LT):St->T (Ex×St):=λst=>A7 tab ⟨Ap tbY,L,Gl⟩ (Ar Tryz.f116 0) 0 st
section
variable (L:LT) (n:Nat) (f:Nat->E6) (s:Int) (i:Nat) (h:Nat->Int)  (j:Nat->V)
include L n f s i h j
theorem Aik (h0:ilt (ofNat i) (ofNat n)=false):Ah (Jb L) (My n f) (PF n f s i h j)=some ((.ex 0),⟨jsV 51 0 Aa [(0,.sl 6 n (λi=>eV (f i))),(5,.ref 1),(6,iV s)],[.row 3 1 0 Aa,.row 3 1 n (λk=>iV (h k))]⟩):=by
 exact Ab (ks:=[kn h0]) (by kernel_rfl)
theorem Aii (h0:ilt (ofNat i) (ofNat n)=true) (h1:Al (ile 0 (ofNat i)) (ilt (ofNat i) (ofNat n))=true) (h2:nlt i n=true) (h3:AK (f i)=true):Ah (Jb L) (My n f) (PF n f s i h j)=some (.nm,⟨jsV 51 0 Aa [(0,.sl 6 n (λi=>eV (f i))),(1,.fn 112 []),(5,.ref 1),(6,iV (wr .i64 (Af s 1))),(13,.sl 6 n (λi=>eV (f i))),(14,nV n),(15,iV (wr .i64 (Af (ofNat i) 1)))],[.row 3 1 0 Aa,.row 3 1 n (BT (λk=>iV (h k)) i (iV s))]⟩):=by
 exact Ab (ks:=[kn h0,kn h1,kn h1,kn h2,kn h3]) (by kernel_rfl)
theorem Aij (h0:ilt (ofNat i) (ofNat n)=true) (h1:Al (ile 0 (ofNat i)) (ilt (ofNat i) (ofNat n))=true) (h2:nlt i n=true) (h3:AK (f i)=false):Ah (Jb L) (My n f) (PF n f s i h j)=some (.nm,⟨jsV 51 0 Aa [(0,.sl 6 n (λi=>eV (f i))),(1,.fn 112 []),(5,.ref 1),(6,iV s),(13,.sl 6 n (λi=>eV (f i))),(14,nV n),(15,iV (wr .i64 (Af (ofNat i) 1)))],[.row 3 1 0 Aa,.row 3 1 n (BT (λk=>iV (h k)) i (iV s))]⟩):=by
 exact Ab (ks:=[kn h0,kn h1,kn h1,kn h2,kn h3]) (by kernel_rfl)
end
def Ag0 (n:Nat) (f:Nat->E6) :Nat->V:=lkV A9 [(4,.ref 0),(10,.sl 6 n (λi=>eV (f i))),(11,nV n),(12,.ref 1)]
def Gf (n:Nat) (f:Nat->E6):Lp:=⟨bmK 51 0 [5,6,9],2,bmK 51 0 [5],2,n+1⟩
def Ki (n:Nat) (f:Nat->E6) (s d:Int) (h:Nat->Int) (j:Nat->V):St:=⟨jsV 51 0 j [(5,.ref 1),(6,iV s),(9,iV d)],[.row 3 1 0 Aa,.row 3 1 n (λk=>iV (h k))]⟩
def KH (n:Nat) (f:Nat->E6) (s d:Int) (h:Nat->Int):Ex×St:=(.ex 2,⟨jsV 51 0 Aa [(5,.ref 1)],[.row 3 1 0 Aa,.row 3 1 n (λk=>iV (h k))]⟩)
noncomputable def GZ (L:LT):St->T (Ex×St):=λst=>A7 tab ⟨Ap tbY,L,Gl⟩ (Ar Tryz.f116 2) 2 st
section
variable (L:LT) (n:Nat) (f:Nat->E6) (s d:Int) (h:Nat->Int)  (j:Nat->V)
include L n f s d h j
theorem AhU (h0:ile 0 d=false):Ah (GZ L) (Gf n f) (Ki n f s d h j)=some ((.ex 2),⟨jsV 51 0 Aa [(5,.ref 1)],[.row 3 1 0 Aa,.row 3 1 n (λk=>iV (h k))]⟩):=by
 exact Ab (ks:=[kn h0,kn h0,kn h0,kn h0,kn h0,kn h0,kn h0,kF]) (by kernel_rfl)
theorem AhT (h0:ile 0 d=true) (h1:Al (ile 0 d) (ilt d (ofNat n))=true) (h2:nlt (toN d) n=true) (h3:ieq (h (toN d)) s=false):Ah (GZ L) (Gf n f) (Ki n f s d h j)=some ((.ex 2),⟨jsV 51 0 Aa [(5,.ref 1)],[.row 3 1 0 Aa,.row 3 1 n (λk=>iV (h k))]⟩):=by
 exact Ab (ks:=[kn h0,kn h0,kn h0,kn h1,kn h0,kn h2,kn h0,kn h0,kn h0,kn h3]) (by kernel_rfl)
theorem AhS (h0:ile 0 d=true) (h1:Al (ile 0 d) (ilt d (ofNat n))=true) (h2:nlt (toN d) n=true) (h3:ieq (h (toN d)) s=true):Ah (GZ L) (Gf n f) (Ki n f s d h j)=some (.nm,⟨jsV 51 0 Aa [(5,.ref 1),(6,iV s),(9,iV (wr .i64 (A5 d 1)))],[.row 3 1 0 Aa,.row 3 1 n (BT (λk=>iV (h k)) (toN d) (iV 0))]⟩):=by
 exact Ab (ks:=[kn h0,kn h0,kn h0,kn h1,kn h0,kn h2,kn h0,kn h0,kn h0,kn h3,kn h1,kn h2]) (by kernel_rfl)
end
def AeW (n:Nat) (f:Nat->E6) (s:Int) (i:Nat) (h:Nat->Int):Nat->V:=lkU 2251766527688094 [(0,.sl 6 n (λi=>eV (f i))),(30,iV s),(31,bV (ilt 0 s)),(32,.sl 6 n (λi=>eV (f i))),(33,nV n),(34,iV (wr .i64 (A5 (ofNat n) 1)))]
theorem AgU (L:LT) (p0:PT) (n:Nat) (f:Nat->E6) (s:Int) (i:Nat) (h:Nat->Int) (h0:DA 8 (ofNat n) (ofNat n)=true) (h1:ilt 0 s=false) (hp0:p0 (Jb (onP 0 p0 (LY n f s i h) L)) (PF n f 0 0 (λ_=>0) (Ag0 n f ))=true):(Az (Ak tab ⟨Ap tbY,onP 0 p0 (LY n f s i h) L,Gl⟩ Tryz.f116 [AQ n f,.fn 112 []] [])).sem=some ((.ref 0),[.row 3 1 n (λk=>iV (h k))]):=by
 exact Ab (ks:=[kn h0,kn hp0,kn h1]) (by kernel_rfl)
theorem AgV (L:LT) (p0:PT) (p2:PT) (n:Nat) (f:Nat->E6) (s d:Int) (i:Nat) (h g:Nat->Int) (h0:DA 8 (ofNat n) (ofNat n)=true) (h1:ilt 0 s=true) (hp0:p0 (Jb (onP 0 p0 (LY n f s i h) (onP 2 p2 (KH n f s d g) L))) (PF n f 0 0 (λ_=>0) (Ag0 n f ))=true) (hp2:p2 (GZ (onP 0 p0 (LY n f s i h) (onP 2 p2 (KH n f s d g) L))) (Ki n f s (wr .i64 (A5 (ofNat n) 1)) h (AeW n f s i h))=true):(Az (Ak tab ⟨Ap tbY,onP 0 p0 (LY n f s i h) (onP 2 p2 (KH n f s d g) L),Gl⟩ Tryz.f116 [AQ n f,.fn 112 []] [])).sem=some ((.ref 0),[.row 3 1 n (λk=>iV (g k))]):=by
 exact Ab (ks:=[kn h0,kn hp0,kn h1,kn hp2]) (by kernel_rfl)
def Mz (n:Nat) (f:Nat->E6):Lp:=⟨bmK 51 0 [0,1,5,6,13,14,15],2,bmK 51 0 [0,5,6],2,n+1⟩
def PG (n:Nat) (f:Nat->E6) (s:Int) (i:Nat) (h:Nat->Int) (j:Nat->V):St:=⟨jsV 51 0 j [(0,.sl 6 n (λi=>eV (f i))),(1,.fn 113 []),(5,.ref 1),(6,iV s),(13,.sl 6 n (λi=>eV (f i))),(14,nV n),(15,nV i)],[.row 3 1 0 Aa,.row 3 1 n (λk=>iV (h k))]⟩
def LZ (n:Nat) (f:Nat->E6) (s:Int) (i:Nat) (h:Nat->Int):Ex×St:=(.ex 0,⟨jsV 51 0 Aa [(0,.sl 6 n (λi=>eV (f i))),(5,.ref 1),(6,iV s)],[.row 3 1 0 Aa,.row 3 1 n (λk=>iV (h k))]⟩)
noncomputable def Jc (L:LT):St->T (Ex×St):=λst=>A7 tab ⟨Ap tbY,L,Gl⟩ (Ar Tryz.f116 0) 0 st
section
variable (L:LT) (n:Nat) (f:Nat->E6) (s:Int) (i:Nat) (h:Nat->Int)  (j:Nat->V)
include L n f s i h j
theorem Ain (h0:ilt (ofNat i) (ofNat n)=false):Ah (Jc L) (Mz n f) (PG n f s i h j)=some ((.ex 0),⟨jsV 51 0 Aa [(0,.sl 6 n (λi=>eV (f i))),(5,.ref 1),(6,iV s)],[.row 3 1 0 Aa,.row 3 1 n (λk=>iV (h k))]⟩):=by
 exact Ab (ks:=[kn h0]) (by kernel_rfl)
theorem Ail (h0:ilt (ofNat i) (ofNat n)=true) (h1:Al (ile 0 (ofNat i)) (ilt (ofNat i) (ofNat n))=true) (h2:nlt i n=true) (h3:AJ (f i)=true):Ah (Jc L) (Mz n f) (PG n f s i h j)=some (.nm,⟨jsV 51 0 Aa [(0,.sl 6 n (λi=>eV (f i))),(1,.fn 113 []),(5,.ref 1),(6,iV (wr .i64 (Af s 1))),(13,.sl 6 n (λi=>eV (f i))),(14,nV n),(15,iV (wr .i64 (Af (ofNat i) 1)))],[.row 3 1 0 Aa,.row 3 1 n (BT (λk=>iV (h k)) i (iV s))]⟩):=by
 exact Ab (ks:=[kn h0,kn h1,kn h1,kn h2,kn h3]) (by kernel_rfl)
theorem Aim (h0:ilt (ofNat i) (ofNat n)=true) (h1:Al (ile 0 (ofNat i)) (ilt (ofNat i) (ofNat n))=true) (h2:nlt i n=true) (h3:AJ (f i)=false):Ah (Jc L) (Mz n f) (PG n f s i h j)=some (.nm,⟨jsV 51 0 Aa [(0,.sl 6 n (λi=>eV (f i))),(1,.fn 113 []),(5,.ref 1),(6,iV s),(13,.sl 6 n (λi=>eV (f i))),(14,nV n),(15,iV (wr .i64 (Af (ofNat i) 1)))],[.row 3 1 0 Aa,.row 3 1 n (BT (λk=>iV (h k)) i (iV s))]⟩):=by
 exact Ab (ks:=[kn h0,kn h1,kn h1,kn h2,kn h3]) (by kernel_rfl)
end
def Ag1 (n:Nat) (f:Nat->E6) :Nat->V:=lkV A9 [(4,.ref 0),(10,.sl 6 n (λi=>eV (f i))),(11,nV n),(12,.ref 1)]
def Gg (n:Nat) (f:Nat->E6):Lp:=⟨bmK 51 0 [5,6,9],2,bmK 51 0 [5],2,n+1⟩
def Kj (n:Nat) (f:Nat->E6) (s d:Int) (h:Nat->Int) (j:Nat->V):St:=⟨jsV 51 0 j [(5,.ref 1),(6,iV s),(9,iV d)],[.row 3 1 0 Aa,.row 3 1 n (λk=>iV (h k))]⟩
def KI (n:Nat) (f:Nat->E6) (s d:Int) (h:Nat->Int):Ex×St:=(.ex 2,⟨jsV 51 0 Aa [(5,.ref 1)],[.row 3 1 0 Aa,.row 3 1 n (λk=>iV (h k))]⟩)
noncomputable def Ha (L:LT):St->T (Ex×St):=λst=>A7 tab ⟨Ap tbY,L,Gl⟩ (Ar Tryz.f116 2) 2 st
section
variable (L:LT) (n:Nat) (f:Nat->E6) (s d:Int) (h:Nat->Int)  (j:Nat->V)
include L n f s d h j
theorem AhX (h0:ile 0 d=false):Ah (Ha L) (Gg n f) (Kj n f s d h j)=some ((.ex 2),⟨jsV 51 0 Aa [(5,.ref 1)],[.row 3 1 0 Aa,.row 3 1 n (λk=>iV (h k))]⟩):=by
 exact Ab (ks:=[kn h0,kn h0,kn h0,kn h0,kn h0,kn h0,kn h0,kF]) (by kernel_rfl)
theorem AhW (h0:ile 0 d=true) (h1:Al (ile 0 d) (ilt d (ofNat n))=true) (h2:nlt (toN d) n=true) (h3:ieq (h (toN d)) s=false):Ah (Ha L) (Gg n f) (Kj n f s d h j)=some ((.ex 2),⟨jsV 51 0 Aa [(5,.ref 1)],[.row 3 1 0 Aa,.row 3 1 n (λk=>iV (h k))]⟩):=by
 exact Ab (ks:=[kn h0,kn h0,kn h0,kn h1,kn h0,kn h2,kn h0,kn h0,kn h0,kn h3]) (by kernel_rfl)
theorem AhV (h0:ile 0 d=true) (h1:Al (ile 0 d) (ilt d (ofNat n))=true) (h2:nlt (toN d) n=true) (h3:ieq (h (toN d)) s=true):Ah (Ha L) (Gg n f) (Kj n f s d h j)=some (.nm,⟨jsV 51 0 Aa [(5,.ref 1),(6,iV s),(9,iV (wr .i64 (A5 d 1)))],[.row 3 1 0 Aa,.row 3 1 n (BT (λk=>iV (h k)) (toN d) (iV 0))]⟩):=by
 exact Ab (ks:=[kn h0,kn h0,kn h0,kn h1,kn h0,kn h2,kn h0,kn h0,kn h0,kn h3,kn h1,kn h2]) (by kernel_rfl)
end
def AeX (n:Nat) (f:Nat->E6) (s:Int) (i:Nat) (h:Nat->Int):Nat->V:=lkU 2251766527688094 [(0,.sl 6 n (λi=>eV (f i))),(30,iV s),(31,bV (ilt 0 s)),(32,.sl 6 n (λi=>eV (f i))),(33,nV n),(34,iV (wr .i64 (A5 (ofNat n) 1)))]
theorem AgW (L:LT) (p0:PT) (n:Nat) (f:Nat->E6) (s:Int) (i:Nat) (h:Nat->Int) (h0:DA 8 (ofNat n) (ofNat n)=true) (h1:ilt 0 s=false) (hp0:p0 (Jc (onP 0 p0 (LZ n f s i h) L)) (PG n f 0 0 (λ_=>0) (Ag1 n f ))=true):(Az (Ak tab ⟨Ap tbY,onP 0 p0 (LZ n f s i h) L,Gl⟩ Tryz.f116 [AQ n f,.fn 113 []] [])).sem=some ((.ref 0),[.row 3 1 n (λk=>iV (h k))]):=by
 exact Ab (ks:=[kn h0,kn hp0,kn h1]) (by kernel_rfl)
theorem AgX (L:LT) (p0:PT) (p2:PT) (n:Nat) (f:Nat->E6) (s d:Int) (i:Nat) (h g:Nat->Int) (h0:DA 8 (ofNat n) (ofNat n)=true) (h1:ilt 0 s=true) (hp0:p0 (Jc (onP 0 p0 (LZ n f s i h) (onP 2 p2 (KI n f s d g) L))) (PG n f 0 0 (λ_=>0) (Ag1 n f ))=true) (hp2:p2 (Ha (onP 0 p0 (LZ n f s i h) (onP 2 p2 (KI n f s d g) L))) (Kj n f s (wr .i64 (A5 (ofNat n) 1)) h (AeX n f s i h))=true):(Az (Ak tab ⟨Ap tbY,onP 0 p0 (LZ n f s i h) (onP 2 p2 (KI n f s d g) L),Gl⟩ Tryz.f116 [AQ n f,.fn 113 []] [])).sem=some ((.ref 0),[.row 3 1 n (λk=>iV (g k))]):=by
 exact Ab (ks:=[kn h0,kn hp0,kn h1,kn hp2]) (by kernel_rfl)
theorem Vh (L:LT) (n:Nat) (f:Nat->E6) (hn:n <= 4611686018427387904):∀ (e i:Nat) (j:Nat->V) (q:Nat),n=i+e->e<q ->
  (A3 (Jb L) (My n f) q (PF n f (ofNat (An (λk=>AK (f k)) i)) i (CM (λk=>AK (f k)) i) j)).sem=some (LY n f (ofNat (An (λk=>AK (f k)) n)) n (CM (λk=>AK (f k)) n))
 | 0,i,j,q+1,h,_=>by
  have:n=i:=by omega
  subst this;exact Ae (Aik L n f _ _ _ j (A1 (Nat.le_refl _)))
 | e+1,i,j,q+1,h,h2=>by
  have hc:=Be (λk=>AK (f k)) i;have hl:ilt (ofNat i) (ofNat n)=true:=ofNat_lt (by omega);have hb:Al (ile 0 (ofNat i)) (ilt (ofNat i) (ofNat n))=true:=by rw [AF,hl]; rfl
  have hk:nlt i n=true:=by simpa [nlt] using (show i<n by omega)
  cases hp:AK (f i) with
  | true =>
   rw [Ae (Aii L n f _ i _ j hl hb hk hp),Ay,Aq (show i<n by omega) hn,Aq (show An (λk=>AK (f k)) i<n by omega) hn,
    show An (λk=>AK (f k)) i+1=An (λk=>AK (f k)) (i+1) by rw [An,hp],Cn,Kb]
   exact Vh L n f hn e (i+1) Aa q (by omega) (by omega)
  | false =>
   rw [Ae (Aij L n f _ i _ j hl hb hk hp),Ay,Aq (show i<n by omega) hn,Cn,Kb,
    show An (λk=>AK (f k)) i=An (λk=>AK (f k)) (i+1) by rw [An,hp]]
   exact Vh L n f hn e (i+1) Aa q (by omega) (by omega)
theorem Aar (L:LT) (n:Nat) (f:Nat->E6) (hn:n <= 4611686018427387904):∀ (D:Nat) (j:Nat->V) (q:Nat),D <= n->D<q->(∀ k,D <= k->k<n->An (λk=>AK (f k)) k=An (λk=>AK (f k)) n) ->
  (A3 (GZ L) (Gf n f) q (Ki n f (ofNat (An (λk=>AK (f k)) n)) (dn D) (CM (λk=>AK (f k)) D) j)).sem=some (KH n f 0 0 (AG (λk=>AK (f k)) n))
 | 0,j,q+1,h,_,hb=>by
  rw [<- Hm (λk=>AK (f k)) n 0 h (λk hk=>absurd hk (Nat.not_lt_zero _)) hb];exact Ae (AhU L n f _ _ _ j rfl)
 | D+1,j,q+1,h,h2,hb=>by
  have hl:ilt (ofNat D) (ofNat n)=true:=ofNat_lt (by omega);have hb1:Al (ile 0 (ofNat D)) (ilt (ofNat D) (ofNat n))=true:=by rw [AF,hl]; rfl
  have hk:nlt D n=true:=by simpa [nlt] using (show D<n by omega)
  have hr:CM (λk=>AK (f k)) (D+1) D=ofNat (An (λk=>AK (f k)) D):=by simp [CM]
  cases hp:ieq (CM (λk=>AK (f k)) (D+1) D) (ofNat (An (λk=>AK (f k)) n)) with
  | true =>
   have he:An (λk=>AK (f k)) D=An (λk=>AK (f k)) n:=by
    rw [hr] at hp;have h7:((An (λk=>AK (f k)) D:Nat):Int)=((An (λk=>AK (f k)) n:Nat):Int):=by simpa [ieq] using hp
    omega
   rw [show dn (D+1)=ofNat D from rfl,Ae (AhS L n f _ _ _ j (AF D) hb1 hk hp),Ay,Q1 (show D <= n by omega) hn,Cn,show toN (ofNat D)=D from rfl,Lv];exact Aar L n f hn D Aa q (by omega) (by omega) λk h3 h4=>by
    by_cases h5:k=D
    ·subst h5; exact he
    ·exact hb k (by omega) h4
  | false =>
   have he:An (λk=>AK (f k)) D ≠ An (λk=>AK (f k)) n:=λe=>by rw [hr,e] at hp; simp [ieq] at hp
   rw [<- Hm (λk=>AK (f k)) n (D+1) h (λk hk e=>he (by have:=Bb (λk=>AK (f k)) (show k <= D by omega); have:=Bb (λk=>AK (f k)) (show D <= n by omega); omega)) hb];exact Ae (AhT L n f _ _ _ j (AF D) hb1 hk hp)
theorem Vi (L:LT) (n:Nat) (f:Nat->E6) (hn:n <= 4611686018427387904):∀ (e i:Nat) (j:Nat->V) (q:Nat),n=i+e->e<q ->
  (A3 (Jc L) (Mz n f) q (PG n f (ofNat (An (λk=>AJ (f k)) i)) i (CM (λk=>AJ (f k)) i) j)).sem=some (LZ n f (ofNat (An (λk=>AJ (f k)) n)) n (CM (λk=>AJ (f k)) n))
 | 0,i,j,q+1,h,_=>by
  have:n=i:=by omega
  subst this;exact Ae (Ain L n f _ _ _ j (A1 (Nat.le_refl _)))
 | e+1,i,j,q+1,h,h2=>by
  have hc:=Be (λk=>AJ (f k)) i;have hl:ilt (ofNat i) (ofNat n)=true:=ofNat_lt (by omega);have hb:Al (ile 0 (ofNat i)) (ilt (ofNat i) (ofNat n))=true:=by rw [AF,hl]; rfl
  have hk:nlt i n=true:=by simpa [nlt] using (show i<n by omega)
  cases hp:AJ (f i) with
  | true =>
   rw [Ae (Ail L n f _ i _ j hl hb hk hp),Ay,Aq (show i<n by omega) hn,Aq (show An (λk=>AJ (f k)) i<n by omega) hn,
    show An (λk=>AJ (f k)) i+1=An (λk=>AJ (f k)) (i+1) by rw [An,hp],Cn,Kb]
   exact Vi L n f hn e (i+1) Aa q (by omega) (by omega)
  | false =>
   rw [Ae (Aim L n f _ i _ j hl hb hk hp),Ay,Aq (show i<n by omega) hn,Cn,Kb,
    show An (λk=>AJ (f k)) i=An (λk=>AJ (f k)) (i+1) by rw [An,hp]]
   exact Vi L n f hn e (i+1) Aa q (by omega) (by omega)
theorem Aas (L:LT) (n:Nat) (f:Nat->E6) (hn:n <= 4611686018427387904):∀ (D:Nat) (j:Nat->V) (q:Nat),D <= n->D<q->(∀ k,D <= k->k<n->An (λk=>AJ (f k)) k=An (λk=>AJ (f k)) n) ->
  (A3 (Ha L) (Gg n f) q (Kj n f (ofNat (An (λk=>AJ (f k)) n)) (dn D) (CM (λk=>AJ (f k)) D) j)).sem=some (KI n f 0 0 (AG (λk=>AJ (f k)) n))
 | 0,j,q+1,h,_,hb=>by
  rw [<- Hm (λk=>AJ (f k)) n 0 h (λk hk=>absurd hk (Nat.not_lt_zero _)) hb];exact Ae (AhX L n f _ _ _ j rfl)
 | D+1,j,q+1,h,h2,hb=>by
  have hl:ilt (ofNat D) (ofNat n)=true:=ofNat_lt (by omega);have hb1:Al (ile 0 (ofNat D)) (ilt (ofNat D) (ofNat n))=true:=by rw [AF,hl]; rfl
  have hk:nlt D n=true:=by simpa [nlt] using (show D<n by omega)
  have hr:CM (λk=>AJ (f k)) (D+1) D=ofNat (An (λk=>AJ (f k)) D):=by simp [CM]
  cases hp:ieq (CM (λk=>AJ (f k)) (D+1) D) (ofNat (An (λk=>AJ (f k)) n)) with
  | true =>
   have he:An (λk=>AJ (f k)) D=An (λk=>AJ (f k)) n:=by
    rw [hr] at hp;have h7:((An (λk=>AJ (f k)) D:Nat):Int)=((An (λk=>AJ (f k)) n:Nat):Int):=by simpa [ieq] using hp
    omega
   rw [show dn (D+1)=ofNat D from rfl,Ae (AhV L n f _ _ _ j (AF D) hb1 hk hp),Ay,Q1 (show D <= n by omega) hn,Cn,show toN (ofNat D)=D from rfl,Lv];exact Aas L n f hn D Aa q (by omega) (by omega) λk h3 h4=>by
    by_cases h5:k=D
    ·subst h5; exact he
    ·exact hb k (by omega) h4
  | false =>
   have he:An (λk=>AJ (f k)) D ≠ An (λk=>AJ (f k)) n:=λe=>by rw [hr,e] at hp; simp [ieq] at hp
   rw [<- Hm (λk=>AJ (f k)) n (D+1) h (λk hk e=>he (by have:=Bb (λk=>AJ (f k)) (show k <= D by omega); have:=Bb (λk=>AJ (f k)) (show D <= n by omega); omega)) hb];exact Ae (AhW L n f _ _ _ j (AF D) hb1 hk hp)
def Vx:List V->AR
 | [v,.fn g []]=>apL v λn f=>.br (DA 8 (ofNat n) (ofNat n)) (match Nat.beq g 112,Nat.beq g 113 with
  | true,_=>.leaf (.ref 0,[.row 3 1 n λk=>iV (AG (λk=>AK (f k)) n k)])
  | false,true=>.leaf (.ref 0,[.row 3 1 n λk=>iV (AG (λk=>AJ (f k)) n k)])
  | false,false=>.fail) .fail
 | _=>.fail
theorem Vp (p:Nat->Bool):CM p 0=λ_=>0:=by
 funext k;simp [CM]
theorem Rs (p:Nat->Bool) (n:Nat) (h:An p n=0):CM p n=AG p n:=by
 funext k;unfold CM AG;by_cases h3:k<n
 ·have:=Bb p (show k <= n by omega)
  have h4:An p k=0:=by omega
  simp [h3,h,h4]
 ·simp [h3]
theorem Adj (n:Nat) (f:Nat->E6) (hm:DA 8 (ofNat n) (ofNat n)=true) :
  (Az (Ak tab (AC Gl tbY [(0,My n f),(2,Gf n f)]) Tryz.f116 [AQ n f,.fn 112 []] [])).sem=some (.ref 0,[.row 3 1 n λk=>iV (AG (λk=>AK (f k)) n k)]):=by
 have hn:n <= 4611686018427387904:=by
  simp only [DA,Bool.and_eq_true,decide_eq_true_eq] at hm;have:=hm.2.2.1;simp only [Int.ofNat_eq_natCast] at this;omega
 have hL:=AL [(0,My n f),(2,Gf n f)];have h0:=λL j=>Vh L n f hn n 0 j (n+1) (by omega) (by omega);have h2:=λL j=>Aar L n f hn n j (n+1) (Nat.le_refl _) (by omega) (λk h1 h2=>by omega);rw [Vp] at h0;rw [<- Q1 (Nat.le_refl n) hn] at h2;cases hs:ilt 0 (ofNat (An (λk=>AK (f k)) n)) with
 | true=>exact AH (AA (AA hL hL) hL) _ (AgV _ _ _ n f _ 0 n (CM (λk=>AK (f k)) n) (AG (λk=>AK (f k)) n) hm hs (Au (h0 _ _)) (Au (h2 _ _)))
 | false =>rw [<- Rs (λk=>AK (f k)) n (by simpa [ilt] using hs)];exact AH (AA hL hL) _ (AgU _ _ n f _ n _ hm hs (Au (h0 _ _)))
theorem Adk (n:Nat) (f:Nat->E6) (hm:DA 8 (ofNat n) (ofNat n)=true) :
  (Az (Ak tab (AC Gl tbY [(0,Mz n f),(2,Gg n f)]) Tryz.f116 [AQ n f,.fn 113 []] [])).sem=some (.ref 0,[.row 3 1 n λk=>iV (AG (λk=>AJ (f k)) n k)]):=by
 have hn:n <= 4611686018427387904:=by
  simp only [DA,Bool.and_eq_true,decide_eq_true_eq] at hm;have:=hm.2.2.1;simp only [Int.ofNat_eq_natCast] at this;omega
 have hL:=AL [(0,Mz n f),(2,Gg n f)];have h0:=λL j=>Vi L n f hn n 0 j (n+1) (by omega) (by omega);have h2:=λL j=>Aas L n f hn n j (n+1) (Nat.le_refl _) (by omega) (λk h1 h2=>by omega);rw [Vp] at h0;rw [<- Q1 (Nat.le_refl n) hn] at h2;cases hs:ilt 0 (ofNat (An (λk=>AJ (f k)) n)) with
 | true=>exact AH (AA (AA hL hL) hL) _ (AgX _ _ _ n f _ 0 n (CM (λk=>AJ (f k)) n) (AG (λk=>AJ (f k)) n) hm hs (Au (h0 _ _)) (Au (h2 _ _)))
 | false =>rw [<- Rs (λk=>AJ (f k)) n (by simpa [ilt] using hs)];exact AH (AA hL hL) _ (AgW _ _ n f _ n _ hm hs (Au (h0 _ _)))
theorem p92:Ax Tryz.prog Gl 116 Vx:=by
 refine Am A8 mixed Tryz.func116 (by kernel_rfl) (by kernel_rfl) λvs v h' h=>?_;unfold Vx at h;split at h
 ·rename_i u g
  obtain ⟨n,f,ha,h1⟩:=Cl h;obtain ⟨hm,hq⟩:=Ad h1;clear h h1;have hA:Bf [u,.fn g []] [AQ n f,.fn g []]:=λS w cs hv=>by
   obtain ⟨c,l,rfl,q1,q2⟩:=hv;exact ⟨c,l,rfl,ha S w c q1,q2⟩
  split at hq
  ·rename_i h1
   have h1:=Nat.eq_of_beq_eq_true h1;subst h1;have:=Ac hq;simp only [Prod.mk.injEq] at this;obtain ⟨rfl,rfl⟩:=this;have hx:=AI N6 [(0,My n f),(2,Gf n f)];exact ⟨_,AC Gl tbY [(0,My n f),(2,Gf n f)],_,hA,rfl,hx.1,hx.2,Adj n f hm,Aw.refl _⟩
  ·rename_i h1
   have h1:=Nat.eq_of_beq_eq_true h1;subst h1;have:=Ac hq;simp only [Prod.mk.injEq] at this;obtain ⟨rfl,rfl⟩:=this;have hx:=AI N6 [(0,Mz n f),(2,Gg n f)];exact ⟨_,AC Gl tbY [(0,Mz n f),(2,Gg n f)],_,hA,rfl,hx.1,hx.2,Adk n f hm,Aw.refl _⟩
  ·cases hq
 ·cases h
end Go.Proofs.YtkgdhhieomndeaaGreatDoor.Ed
namespace Go.Proofs.YtkgdhhieomndeaaGreatDoor.Ed
open Go.Sy
end Go.Proofs.YtkgdhhieomndeaaGreatDoor.Ed
namespace Go.Proofs.YtkgdhhieomndeaaGreatDoor.Ed
open Go.Sy
def okI (v:V):Bool:=match gI v with
 | some _=>true
 | none=>false
def edI (v:V):Int:=match gI v with
 | some e=>e
 | none=>0
theorem NZ {v:V} (h:okI v=true):v=iV (edI v):=by
 unfold okI at h;unfold edI;split at h
 ·rename_i e he
  exact Gk he
 ·cases h
def EJ (n:Nat) (f:Nat->Int):V:=.sl 1 n λi=>iV (f i)
def YQ:V->Option (Nat×(Nat->V))
 | .sl s n g=>match Nat.beq s 1 with
  | true=>some (n,g)
  | false=>none
 | _=>none
def apI {α:Type} (v:V) (F:Nat->(Nat->Int)->T α):T α :=
 match YQ v with
 | some (n,g)=>.br (AB n λi=>okI (g i)) (F n λi=>edI (g i)) .fail
 | none=>.fail
theorem He {α:Type} {v:V} {F:Nat->(Nat->Int)->T α} {r:α} (h:(apI v F).sem=some r) :
  ∃ n f,(∀ (S:Nat->Prop) (w:World) (c:Value),VR S w v noK c->VR S w (EJ n f) noK c)∧(F n f).sem=some r:=by
 unfold apI at h;split at h
 ·rename_i n g hg
  obtain ⟨h1,h2⟩:=Ad h;have h1:=A0.1 h1;refine ⟨n,_,λS w c hv=>?_,h2⟩;unfold YQ at hg;split at hg
  ·rename_i s n' g'
   split at hg
   ·rename_i hs
    simp only [Option.some.injEq,Prod.mk.injEq] at hg;obtain ⟨rfl,rfl⟩:=hg;have hs:s=1:=Nat.eq_of_beq_eq_true hs;subst hs;obtain ⟨a,cap,e,hc,hb⟩:=hv;refine ⟨a,cap,e,hc,hb.imp id ?_⟩
    rintro ⟨b,o,ea,hel⟩
    refine ⟨b,o,ea,λi hi=>?_⟩;have:=hel i hi;rw [NZ (h1 i hi)] at this;exact this
   ·cases hg
  ·cases hg
 ·cases h
def AoY (F:Nat->(Nat->Int)->Nat->(Nat->Int)->AR):List V->AR
 | [v,u]=>apI v λn f=>apI u λm g=>F n f m g
 | _=>.fail
def Aft (F:Nat->(Nat->Int)->AR):List V->AR
 | [v]=>apI v F
 | _=>.fail
theorem QD {F:Nat->(Nat->Int)->AR} {vs:List V} {r:V×List Blk} (h:(Aft F vs).sem=some r):∃ n f,Bf vs [EJ n f]∧(F n f).sem=some r:=by
 unfold Aft at h;split at h
 ·obtain ⟨n,f,h1,h2⟩:=He h
  refine ⟨n,f,λS w cs hv=>?_,h2⟩;obtain ⟨c,l,rfl,q1,q2⟩:=hv;exact ⟨c,l,rfl,h1 S w c q1,q2⟩
 ·cases h
def okB (v:V):Bool:=match gB v with
 | some _=>true
 | none=>false
def edB (v:V):Bool:=match gB v with
 | some e=>e
 | none=>false
theorem AaY {v:V} (h:okB v=true):v=bV (edB v):=by
 unfold okB at h;unfold edB;split at h
 ·rename_i e he
  exact RL he
 ·cases h
def Wv (n:Nat) (f:Nat->Bool):V:=.sl 1 n λi=>bV (f i)
def apB {α:Type} (v:V) (F:Nat->(Nat->Bool)->T α):T α :=
 match YQ v with
 | some (n,g)=>.br (AB n λi=>okB (g i)) (F n λi=>edB (g i)) .fail
 | none=>.fail
theorem AcU {α:Type} {v:V} {F:Nat->(Nat->Bool)->T α} {r:α} (h:(apB v F).sem=some r) :
  ∃ n f,(∀ (S:Nat->Prop) (w:World) (c:Value),VR S w v noK c->VR S w (Wv n f) noK c)∧(F n f).sem=some r:=by
 unfold apB at h;split at h
 ·rename_i n g hg
  obtain ⟨h1,h2⟩:=Ad h;have h1:=A0.1 h1;refine ⟨n,_,λS w c hv=>?_,h2⟩;unfold YQ at hg;split at hg
  ·rename_i s n' g'
   split at hg
   ·rename_i hs
    simp only [Option.some.injEq,Prod.mk.injEq] at hg;obtain ⟨rfl,rfl⟩:=hg;have hs:s=1:=Nat.eq_of_beq_eq_true hs;subst hs;obtain ⟨a,cap,e,hc,hb⟩:=hv;refine ⟨a,cap,e,hc,hb.imp id ?_⟩
    rintro ⟨b,o,ea,hel⟩
    refine ⟨b,o,ea,λi hi=>?_⟩;have:=hel i hi;rw [AaY (h1 i hi)] at this;exact this
   ·cases hg
  ·cases hg
 ·cases h
end Go.Proofs.YtkgdhhieomndeaaGreatDoor.Ed
