/-
  Layer 4: the parts of a cycle. No conditions.
-/
import Derived.Test.YtkbafjceglhjhaaGreatDoorCyB
import Derived.Test.YtkbafjceglhjhaaGreatDoorSyU
namespace Go.Proofs.YtkbafjceglhjhaaGreatDoor.Ed
open Go.Sy
open Int (ofNat)
def CP (p:Nat->Bool) (i k:Nat):Int:=bif decide (k<i) then ofNat (Ai p k) else 0
def Az (p:Nat->Bool) (n k:Nat):Int:=bif decide (k<n) then (bif decide (Ai p k=Ai p n) then 0 else ofNat (Ai p k)) else 0
def GN (h:Nat->Int) (i:Nat) (s:Int) (k:Nat):Int:=bif decide (k=i) then s else h k
theorem Ca (h:Nat->Int) (i:Nat) (s:Int):BA (λk=>iV (h k)) i (iV s)=λk=>iV (GN h i s k):=by
 funext k;rw [Fl,show Nat.beq k i=decide (k=i) by rw [Bool.eq_iff_iff]; simp];unfold GN;cases decide (k=i) <;> rfl
theorem J0 (p:Nat->Bool) (i:Nat):GN (CP p i) i (ofNat (Ai p i))=CP p (i+1):=by
 funext k;unfold GN CP;by_cases h:k=i
 ·subst h; simp
 ·by_cases h2:k<i
  ·have:k<i+1:=by omega
   simp [h,h2,this]
  ·have:¬ k<i+1:=by omega
   simp [h,h2,this]
theorem K7 (p:Nat->Bool) (i:Nat):GN (CP p (i+1)) i 0=CP p i:=by
 funext k;unfold GN CP;by_cases h:k=i
 ·subst h; simp
 ·by_cases h2:k<i
  ·have:k<i+1:=by omega
   simp [h,h2,this]
  ·have:¬ k<i+1:=by omega
   simp [h,h2,this]
def dn:Nat->Int
 | 0=>-1
 | D+1=>ofNat D
theorem Pd {D n:Nat} (h:D <= n) (hn:n <= 4611686018427387904):wr .i64 (Bw (ofNat D) 1)=dn D:=by
 cases D with
 | zero=>rfl
 | succ D =>unfold wr Bw IntKind.wrap dn;simp [IntKind.bits,IntKind.signed];omega
theorem AO (p:Nat->Bool):∀ {i k:Nat},i <= k->Ai p i <= Ai p k
 | i,0,h=>by
  have:i=0:=by omega
  subst this;exact Nat.le_refl _
 | i,k+1,h=>by
  by_cases h2:i=k+1
  ·subst h2; exact Nat.le_refl _
  ·have:=AO p (show i <= k by omega)
   refine Nat.le_trans this ?_;rw [show Ai p (k+1)=(match p k with | true=>Ai p k+1 | false=>Ai p k) from rfl]
   cases p k
   ·exact Nat.le_refl _
   ·exact Nat.le_succ _
theorem GW (p:Nat->Bool) (n D:Nat) (h:D <= n) (h1:∀ k,k<D->Ai p k ≠ Ai p n) (h2:∀ k,D <= k->k<n->Ai p k=Ai p n):CP p D=Az p n:=by
 funext k;unfold CP Az;by_cases h3:k<D
 ·have h4:k<n:=by omega
  simp [h3,h4,h1 k h3]
 ·by_cases h4:k<n
  ·simp [h3,h4,h2 k (by omega) h4]
  ·simp [h3,h4]
def L6 (n:Nat) (f:Nat->E6):Lp:=⟨bmK 51 0 [0,1,5,6,13,14,15],2,bmK 51 0 [0,5,6],2,n+1⟩
def O4 (n:Nat) (f:Nat->E6) (s:Int) (i:Nat) (h:Nat->Int) (j:Nat->V):St:=⟨jsV 51 0 j [(0,.sl 6 n (λi=>eV (f i))),(1,.fn 171 []),(5,.ref 1),(6,iV s),(13,.sl 6 n (λi=>eV (f i))),(14,nV n),(15,nV i)],[.row 3 1 0 Ab,.row 3 1 n (λk=>iV (h k))]⟩
def Ld (n:Nat) (f:Nat->E6) (s:Int) (i:Nat) (h:Nat->Int):Ex×St:=(.ex 0,⟨jsV 51 0 Ab [(0,.sl 6 n (λi=>eV (f i))),(5,.ref 1),(6,iV s)],[.row 3 1 0 Ab,.row 3 1 n (λk=>iV (h k))]⟩)
noncomputable def I5 (L:LT):St->T (Ex×St):=λst=>AL tab ⟨A0 tbY,L,Gl⟩ (A3 Tryz.f175 0) 0 st
section
variable (L:LT) (n:Nat) (f:Nat->E6) (s:Int) (i:Nat) (h:Nat->Int)  (j:Nat->V)
include L n f s i h j
theorem Ag1 (h0:ilt (ofNat i) (ofNat n)=false):Ay (I5 L) (L6 n f) (O4 n f s i h j)=some ((.ex 0),⟨jsV 51 0 Ab [(0,.sl 6 n (λi=>eV (f i))),(5,.ref 1),(6,iV s)],[.row 3 1 0 Ab,.row 3 1 n (λk=>iV (h k))]⟩):=by
 exact Ad (ks:=[kn h0]) (by kernel_rfl)
theorem Agz (h0:ilt (ofNat i) (ofNat n)=true) (h1:Aj (ile 0 (ofNat i)) (ilt (ofNat i) (ofNat n))=true) (h2:nlt i n=true) (h3:A2 (f i)=true):Ay (I5 L) (L6 n f) (O4 n f s i h j)=some (.nm,⟨jsV 51 0 Ab [(0,.sl 6 n (λi=>eV (f i))),(1,.fn 171 []),(5,.ref 1),(6,iV (wr .i64 (Ah s 1))),(13,.sl 6 n (λi=>eV (f i))),(14,nV n),(15,iV (wr .i64 (Ah (ofNat i) 1)))],[.row 3 1 0 Ab,.row 3 1 n (BA (λk=>iV (h k)) i (iV s))]⟩):=by
 exact Ad (ks:=[kn h0,kn h1,kn h1,kn h2,kn h3]) (by kernel_rfl)
theorem Ag0 (h0:ilt (ofNat i) (ofNat n)=true) (h1:Aj (ile 0 (ofNat i)) (ilt (ofNat i) (ofNat n))=true) (h2:nlt i n=true) (h3:A2 (f i)=false):Ay (I5 L) (L6 n f) (O4 n f s i h j)=some (.nm,⟨jsV 51 0 Ab [(0,.sl 6 n (λi=>eV (f i))),(1,.fn 171 []),(5,.ref 1),(6,iV s),(13,.sl 6 n (λi=>eV (f i))),(14,nV n),(15,iV (wr .i64 (Ah (ofNat i) 1)))],[.row 3 1 0 Ab,.row 3 1 n (BA (λk=>iV (h k)) i (iV s))]⟩):=by
 exact Ad (ks:=[kn h0,kn h1,kn h1,kn h2,kn h3]) (by kernel_rfl)
end
def Ae0 (n:Nat) (f:Nat->E6) :Nat->V:=lkV AI [(4,.ref 0),(10,.sl 6 n (λi=>eV (f i))),(11,nV n),(12,.ref 1)]
def FQ (n:Nat) (f:Nat->E6):Lp:=⟨bmK 51 0 [5,6,9],2,bmK 51 0 [5],2,n+1⟩
def J9 (n:Nat) (f:Nat->E6) (s d:Int) (h:Nat->Int) (j:Nat->V):St:=⟨jsV 51 0 j [(5,.ref 1),(6,iV s),(9,iV d)],[.row 3 1 0 Ab,.row 3 1 n (λk=>iV (h k))]⟩
def Ke (n:Nat) (f:Nat->E6) (s d:Int) (h:Nat->Int):Ex×St:=(.ex 2,⟨jsV 51 0 Ab [(5,.ref 1)],[.row 3 1 0 Ab,.row 3 1 n (λk=>iV (h k))]⟩)
noncomputable def GF (L:LT):St->T (Ex×St):=λst=>AL tab ⟨A0 tbY,L,Gl⟩ (A3 Tryz.f175 2) 2 st
section
variable (L:LT) (n:Nat) (f:Nat->E6) (s d:Int) (h:Nat->Int)  (j:Nat->V)
include L n f s d h j
theorem Agl (h0:ile 0 d=false):Ay (GF L) (FQ n f) (J9 n f s d h j)=some ((.ex 2),⟨jsV 51 0 Ab [(5,.ref 1)],[.row 3 1 0 Ab,.row 3 1 n (λk=>iV (h k))]⟩):=by
 exact Ad (ks:=[kn h0,kn h0,kn h0,kn h0,kn h0,kn h0,kn h0,kF]) (by kernel_rfl)
theorem Agk (h0:ile 0 d=true) (h1:Aj (ile 0 d) (ilt d (ofNat n))=true) (h2:nlt (toN d) n=true) (h3:ieq (h (toN d)) s=false):Ay (GF L) (FQ n f) (J9 n f s d h j)=some ((.ex 2),⟨jsV 51 0 Ab [(5,.ref 1)],[.row 3 1 0 Ab,.row 3 1 n (λk=>iV (h k))]⟩):=by
 exact Ad (ks:=[kn h0,kn h0,kn h0,kn h1,kn h0,kn h2,kn h0,kn h0,kn h0,kn h3]) (by kernel_rfl)
theorem Agj (h0:ile 0 d=true) (h1:Aj (ile 0 d) (ilt d (ofNat n))=true) (h2:nlt (toN d) n=true) (h3:ieq (h (toN d)) s=true):Ay (GF L) (FQ n f) (J9 n f s d h j)=some (.nm,⟨jsV 51 0 Ab [(5,.ref 1),(6,iV s),(9,iV (wr .i64 (Bw d 1)))],[.row 3 1 0 Ab,.row 3 1 n (BA (λk=>iV (h k)) (toN d) (iV 0))]⟩):=by
 exact Ad (ks:=[kn h0,kn h0,kn h0,kn h1,kn h0,kn h2,kn h0,kn h0,kn h0,kn h3,kn h1,kn h2]) (by kernel_rfl)
end
def AcQ (n:Nat) (f:Nat->E6) (s:Int) (i:Nat) (h:Nat->Int):Nat->V:=lkU 2251766527688094 [(0,.sl 6 n (λi=>eV (f i))),(30,iV s),(31,bV (ilt 0 s)),(32,.sl 6 n (λi=>eV (f i))),(33,nV n),(34,iV (wr .i64 (Bw (ofNat n) 1)))]
theorem Afh (L:LT) (p0:PT) (n:Nat) (f:Nat->E6) (s:Int) (i:Nat) (h:Nat->Int) (h0:E0 8 (ofNat n) (ofNat n)=true) (h1:ilt 0 s=false) (hp0:p0 (I5 (onP 0 p0 (Ld n f s i h) L)) (O4 n f 0 0 (λ_=>0) (Ae0 n f ))=true):(Ax (Ak tab ⟨A0 tbY,onP 0 p0 (Ld n f s i h) L,Gl⟩ Tryz.f175 [AC n f,.fn 171 []] [])).sem=some ((.ref 0),[.row 3 1 n (λk=>iV (h k))]):=by
 exact Ad (ks:=[kn h0,kn hp0,kn h1]) (by kernel_rfl)
theorem Afi (L:LT) (p0:PT) (p2:PT) (n:Nat) (f:Nat->E6) (s d:Int) (i:Nat) (h g:Nat->Int) (h0:E0 8 (ofNat n) (ofNat n)=true) (h1:ilt 0 s=true) (hp0:p0 (I5 (onP 0 p0 (Ld n f s i h) (onP 2 p2 (Ke n f s d g) L))) (O4 n f 0 0 (λ_=>0) (Ae0 n f ))=true) (hp2:p2 (GF (onP 0 p0 (Ld n f s i h) (onP 2 p2 (Ke n f s d g) L))) (J9 n f s (wr .i64 (Bw (ofNat n) 1)) h (AcQ n f s i h))=true):(Ax (Ak tab ⟨A0 tbY,onP 0 p0 (Ld n f s i h) (onP 2 p2 (Ke n f s d g) L),Gl⟩ Tryz.f175 [AC n f,.fn 171 []] [])).sem=some ((.ref 0),[.row 3 1 n (λk=>iV (g k))]):=by
 exact Ad (ks:=[kn h0,kn hp0,kn h1,kn hp2]) (by kernel_rfl)
def L8 (n:Nat) (f:Nat->E6):Lp:=⟨bmK 51 0 [0,1,5,6,13,14,15],2,bmK 51 0 [0,5,6],2,n+1⟩
def O5 (n:Nat) (f:Nat->E6) (s:Int) (i:Nat) (h:Nat->Int) (j:Nat->V):St:=⟨jsV 51 0 j [(0,.sl 6 n (λi=>eV (f i))),(1,.fn 172 []),(5,.ref 1),(6,iV s),(13,.sl 6 n (λi=>eV (f i))),(14,nV n),(15,nV i)],[.row 3 1 0 Ab,.row 3 1 n (λk=>iV (h k))]⟩
def Le (n:Nat) (f:Nat->E6) (s:Int) (i:Nat) (h:Nat->Int):Ex×St:=(.ex 0,⟨jsV 51 0 Ab [(0,.sl 6 n (λi=>eV (f i))),(5,.ref 1),(6,iV s)],[.row 3 1 0 Ab,.row 3 1 n (λk=>iV (h k))]⟩)
noncomputable def I7 (L:LT):St->T (Ex×St):=λst=>AL tab ⟨A0 tbY,L,Gl⟩ (A3 Tryz.f175 0) 0 st
section
variable (L:LT) (n:Nat) (f:Nat->E6) (s:Int) (i:Nat) (h:Nat->Int)  (j:Nat->V)
include L n f s i h j
theorem Ag4 (h0:ilt (ofNat i) (ofNat n)=false):Ay (I7 L) (L8 n f) (O5 n f s i h j)=some ((.ex 0),⟨jsV 51 0 Ab [(0,.sl 6 n (λi=>eV (f i))),(5,.ref 1),(6,iV s)],[.row 3 1 0 Ab,.row 3 1 n (λk=>iV (h k))]⟩):=by
 exact Ad (ks:=[kn h0]) (by kernel_rfl)
theorem Ag2 (h0:ilt (ofNat i) (ofNat n)=true) (h1:Aj (ile 0 (ofNat i)) (ilt (ofNat i) (ofNat n))=true) (h2:nlt i n=true) (h3:A7 (f i)=true):Ay (I7 L) (L8 n f) (O5 n f s i h j)=some (.nm,⟨jsV 51 0 Ab [(0,.sl 6 n (λi=>eV (f i))),(1,.fn 172 []),(5,.ref 1),(6,iV (wr .i64 (Ah s 1))),(13,.sl 6 n (λi=>eV (f i))),(14,nV n),(15,iV (wr .i64 (Ah (ofNat i) 1)))],[.row 3 1 0 Ab,.row 3 1 n (BA (λk=>iV (h k)) i (iV s))]⟩):=by
 exact Ad (ks:=[kn h0,kn h1,kn h1,kn h2,kn h3]) (by kernel_rfl)
theorem Ag3 (h0:ilt (ofNat i) (ofNat n)=true) (h1:Aj (ile 0 (ofNat i)) (ilt (ofNat i) (ofNat n))=true) (h2:nlt i n=true) (h3:A7 (f i)=false):Ay (I7 L) (L8 n f) (O5 n f s i h j)=some (.nm,⟨jsV 51 0 Ab [(0,.sl 6 n (λi=>eV (f i))),(1,.fn 172 []),(5,.ref 1),(6,iV s),(13,.sl 6 n (λi=>eV (f i))),(14,nV n),(15,iV (wr .i64 (Ah (ofNat i) 1)))],[.row 3 1 0 Ab,.row 3 1 n (BA (λk=>iV (h k)) i (iV s))]⟩):=by
 exact Ad (ks:=[kn h0,kn h1,kn h1,kn h2,kn h3]) (by kernel_rfl)
end
def Ae1 (n:Nat) (f:Nat->E6) :Nat->V:=lkV AI [(4,.ref 0),(10,.sl 6 n (λi=>eV (f i))),(11,nV n),(12,.ref 1)]
def FR (n:Nat) (f:Nat->E6):Lp:=⟨bmK 51 0 [5,6,9],2,bmK 51 0 [5],2,n+1⟩
def JA (n:Nat) (f:Nat->E6) (s d:Int) (h:Nat->Int) (j:Nat->V):St:=⟨jsV 51 0 j [(5,.ref 1),(6,iV s),(9,iV d)],[.row 3 1 0 Ab,.row 3 1 n (λk=>iV (h k))]⟩
def Kf (n:Nat) (f:Nat->E6) (s d:Int) (h:Nat->Int):Ex×St:=(.ex 2,⟨jsV 51 0 Ab [(5,.ref 1)],[.row 3 1 0 Ab,.row 3 1 n (λk=>iV (h k))]⟩)
noncomputable def GG (L:LT):St->T (Ex×St):=λst=>AL tab ⟨A0 tbY,L,Gl⟩ (A3 Tryz.f175 2) 2 st
section
variable (L:LT) (n:Nat) (f:Nat->E6) (s d:Int) (h:Nat->Int)  (j:Nat->V)
include L n f s d h j
theorem Ago (h0:ile 0 d=false):Ay (GG L) (FR n f) (JA n f s d h j)=some ((.ex 2),⟨jsV 51 0 Ab [(5,.ref 1)],[.row 3 1 0 Ab,.row 3 1 n (λk=>iV (h k))]⟩):=by
 exact Ad (ks:=[kn h0,kn h0,kn h0,kn h0,kn h0,kn h0,kn h0,kF]) (by kernel_rfl)
theorem Agn (h0:ile 0 d=true) (h1:Aj (ile 0 d) (ilt d (ofNat n))=true) (h2:nlt (toN d) n=true) (h3:ieq (h (toN d)) s=false):Ay (GG L) (FR n f) (JA n f s d h j)=some ((.ex 2),⟨jsV 51 0 Ab [(5,.ref 1)],[.row 3 1 0 Ab,.row 3 1 n (λk=>iV (h k))]⟩):=by
 exact Ad (ks:=[kn h0,kn h0,kn h0,kn h1,kn h0,kn h2,kn h0,kn h0,kn h0,kn h3]) (by kernel_rfl)
theorem Agm (h0:ile 0 d=true) (h1:Aj (ile 0 d) (ilt d (ofNat n))=true) (h2:nlt (toN d) n=true) (h3:ieq (h (toN d)) s=true):Ay (GG L) (FR n f) (JA n f s d h j)=some (.nm,⟨jsV 51 0 Ab [(5,.ref 1),(6,iV s),(9,iV (wr .i64 (Bw d 1)))],[.row 3 1 0 Ab,.row 3 1 n (BA (λk=>iV (h k)) (toN d) (iV 0))]⟩):=by
 exact Ad (ks:=[kn h0,kn h0,kn h0,kn h1,kn h0,kn h2,kn h0,kn h0,kn h0,kn h3,kn h1,kn h2]) (by kernel_rfl)
end
def AcR (n:Nat) (f:Nat->E6) (s:Int) (i:Nat) (h:Nat->Int):Nat->V:=lkU 2251766527688094 [(0,.sl 6 n (λi=>eV (f i))),(30,iV s),(31,bV (ilt 0 s)),(32,.sl 6 n (λi=>eV (f i))),(33,nV n),(34,iV (wr .i64 (Bw (ofNat n) 1)))]
theorem Afj (L:LT) (p0:PT) (n:Nat) (f:Nat->E6) (s:Int) (i:Nat) (h:Nat->Int) (h0:E0 8 (ofNat n) (ofNat n)=true) (h1:ilt 0 s=false) (hp0:p0 (I7 (onP 0 p0 (Le n f s i h) L)) (O5 n f 0 0 (λ_=>0) (Ae1 n f ))=true):(Ax (Ak tab ⟨A0 tbY,onP 0 p0 (Le n f s i h) L,Gl⟩ Tryz.f175 [AC n f,.fn 172 []] [])).sem=some ((.ref 0),[.row 3 1 n (λk=>iV (h k))]):=by
 exact Ad (ks:=[kn h0,kn hp0,kn h1]) (by kernel_rfl)
theorem Afk (L:LT) (p0:PT) (p2:PT) (n:Nat) (f:Nat->E6) (s d:Int) (i:Nat) (h g:Nat->Int) (h0:E0 8 (ofNat n) (ofNat n)=true) (h1:ilt 0 s=true) (hp0:p0 (I7 (onP 0 p0 (Le n f s i h) (onP 2 p2 (Kf n f s d g) L))) (O5 n f 0 0 (λ_=>0) (Ae1 n f ))=true) (hp2:p2 (GG (onP 0 p0 (Le n f s i h) (onP 2 p2 (Kf n f s d g) L))) (JA n f s (wr .i64 (Bw (ofNat n) 1)) h (AcR n f s i h))=true):(Ax (Ak tab ⟨A0 tbY,onP 0 p0 (Le n f s i h) (onP 2 p2 (Kf n f s d g) L),Gl⟩ Tryz.f175 [AC n f,.fn 172 []] [])).sem=some ((.ref 0),[.row 3 1 n (λk=>iV (g k))]):=by
 exact Ad (ks:=[kn h0,kn hp0,kn h1,kn hp2]) (by kernel_rfl)
theorem TS (L:LT) (n:Nat) (f:Nat->E6) (hn:n <= 4611686018427387904):∀ (e i:Nat) (j:Nat->V) (q:Nat),n=i+e->e<q ->
  (A4 (I5 L) (L6 n f) q (O4 n f (ofNat (Ai (λk=>A2 (f k)) i)) i (CP (λk=>A2 (f k)) i) j)).sem=some (Ld n f (ofNat (Ai (λk=>A2 (f k)) n)) n (CP (λk=>A2 (f k)) n))
 | 0,i,j,q+1,h,_=>by
  have:n=i:=by omega
  subst this;exact Ag (Ag1 L n f _ _ _ j (Au (Nat.le_refl _)))
 | e+1,i,j,q+1,h,h2=>by
  have hc:=By (λk=>A2 (f k)) i;have hl:ilt (ofNat i) (ofNat n)=true:=ofNat_lt (by omega);have hb:Aj (ile 0 (ofNat i)) (ilt (ofNat i) (ofNat n))=true:=by rw [Cm,hl]; rfl
  have hk:nlt i n=true:=by simpa [nlt] using (show i<n by omega)
  cases hp:A2 (f i) with
  | true =>
   rw [Ag (Agz L n f _ i _ j hl hb hk hp),AZ,A1 (show i<n by omega) hn,A1 (show Ai (λk=>A2 (f k)) i<n by omega) hn,
    show Ai (λk=>A2 (f k)) i+1=Ai (λk=>A2 (f k)) (i+1) by rw [Ai,hp],Ca,J0]
   exact TS L n f hn e (i+1) Ab q (by omega) (by omega)
  | false =>
   rw [Ag (Ag0 L n f _ i _ j hl hb hk hp),AZ,A1 (show i<n by omega) hn,Ca,J0,
    show Ai (λk=>A2 (f k)) i=Ai (λk=>A2 (f k)) (i+1) by rw [Ai,hp]]
   exact TS L n f hn e (i+1) Ab q (by omega) (by omega)
theorem YB (L:LT) (n:Nat) (f:Nat->E6) (hn:n <= 4611686018427387904):∀ (D:Nat) (j:Nat->V) (q:Nat),D <= n->D<q->(∀ k,D <= k->k<n->Ai (λk=>A2 (f k)) k=Ai (λk=>A2 (f k)) n) ->
  (A4 (GF L) (FQ n f) q (J9 n f (ofNat (Ai (λk=>A2 (f k)) n)) (dn D) (CP (λk=>A2 (f k)) D) j)).sem=some (Ke n f 0 0 (Az (λk=>A2 (f k)) n))
 | 0,j,q+1,h,_,hb=>by
  rw [<- GW (λk=>A2 (f k)) n 0 h (λk hk=>absurd hk (Nat.not_lt_zero _)) hb];exact Ag (Agl L n f _ _ _ j rfl)
 | D+1,j,q+1,h,h2,hb=>by
  have hl:ilt (ofNat D) (ofNat n)=true:=ofNat_lt (by omega);have hb1:Aj (ile 0 (ofNat D)) (ilt (ofNat D) (ofNat n))=true:=by rw [Cm,hl]; rfl
  have hk:nlt D n=true:=by simpa [nlt] using (show D<n by omega)
  have hr:CP (λk=>A2 (f k)) (D+1) D=ofNat (Ai (λk=>A2 (f k)) D):=by simp [CP]
  cases hp:ieq (CP (λk=>A2 (f k)) (D+1) D) (ofNat (Ai (λk=>A2 (f k)) n)) with
  | true =>
   have he:Ai (λk=>A2 (f k)) D=Ai (λk=>A2 (f k)) n:=by
    rw [hr] at hp;have h7:((Ai (λk=>A2 (f k)) D:Nat):Int)=((Ai (λk=>A2 (f k)) n:Nat):Int):=by simpa [ieq] using hp
    omega
   rw [show dn (D+1)=ofNat D from rfl,Ag (Agj L n f _ _ _ j (Cm D) hb1 hk hp),AZ,Pd (show D <= n by omega) hn,Ca,show toN (ofNat D)=D from rfl,K7];exact YB L n f hn D Ab q (by omega) (by omega) λk h3 h4=>by
    by_cases h5:k=D
    ·subst h5; exact he
    ·exact hb k (by omega) h4
  | false =>
   have he:Ai (λk=>A2 (f k)) D ≠ Ai (λk=>A2 (f k)) n:=λe=>by rw [hr,e] at hp; simp [ieq] at hp
   rw [<- GW (λk=>A2 (f k)) n (D+1) h (λk hk e=>he (by have:=AO (λk=>A2 (f k)) (show k <= D by omega); have:=AO (λk=>A2 (f k)) (show D <= n by omega); omega)) hb];exact Ag (Agk L n f _ _ _ j (Cm D) hb1 hk hp)
theorem TT (L:LT) (n:Nat) (f:Nat->E6) (hn:n <= 4611686018427387904):∀ (e i:Nat) (j:Nat->V) (q:Nat),n=i+e->e<q ->
  (A4 (I7 L) (L8 n f) q (O5 n f (ofNat (Ai (λk=>A7 (f k)) i)) i (CP (λk=>A7 (f k)) i) j)).sem=some (Le n f (ofNat (Ai (λk=>A7 (f k)) n)) n (CP (λk=>A7 (f k)) n))
 | 0,i,j,q+1,h,_=>by
  have:n=i:=by omega
  subst this;exact Ag (Ag4 L n f _ _ _ j (Au (Nat.le_refl _)))
 | e+1,i,j,q+1,h,h2=>by
  have hc:=By (λk=>A7 (f k)) i;have hl:ilt (ofNat i) (ofNat n)=true:=ofNat_lt (by omega);have hb:Aj (ile 0 (ofNat i)) (ilt (ofNat i) (ofNat n))=true:=by rw [Cm,hl]; rfl
  have hk:nlt i n=true:=by simpa [nlt] using (show i<n by omega)
  cases hp:A7 (f i) with
  | true =>
   rw [Ag (Ag2 L n f _ i _ j hl hb hk hp),AZ,A1 (show i<n by omega) hn,A1 (show Ai (λk=>A7 (f k)) i<n by omega) hn,
    show Ai (λk=>A7 (f k)) i+1=Ai (λk=>A7 (f k)) (i+1) by rw [Ai,hp],Ca,J0]
   exact TT L n f hn e (i+1) Ab q (by omega) (by omega)
  | false =>
   rw [Ag (Ag3 L n f _ i _ j hl hb hk hp),AZ,A1 (show i<n by omega) hn,Ca,J0,
    show Ai (λk=>A7 (f k)) i=Ai (λk=>A7 (f k)) (i+1) by rw [Ai,hp]]
   exact TT L n f hn e (i+1) Ab q (by omega) (by omega)
theorem YC (L:LT) (n:Nat) (f:Nat->E6) (hn:n <= 4611686018427387904):∀ (D:Nat) (j:Nat->V) (q:Nat),D <= n->D<q->(∀ k,D <= k->k<n->Ai (λk=>A7 (f k)) k=Ai (λk=>A7 (f k)) n) ->
  (A4 (GG L) (FR n f) q (JA n f (ofNat (Ai (λk=>A7 (f k)) n)) (dn D) (CP (λk=>A7 (f k)) D) j)).sem=some (Kf n f 0 0 (Az (λk=>A7 (f k)) n))
 | 0,j,q+1,h,_,hb=>by
  rw [<- GW (λk=>A7 (f k)) n 0 h (λk hk=>absurd hk (Nat.not_lt_zero _)) hb];exact Ag (Ago L n f _ _ _ j rfl)
 | D+1,j,q+1,h,h2,hb=>by
  have hl:ilt (ofNat D) (ofNat n)=true:=ofNat_lt (by omega);have hb1:Aj (ile 0 (ofNat D)) (ilt (ofNat D) (ofNat n))=true:=by rw [Cm,hl]; rfl
  have hk:nlt D n=true:=by simpa [nlt] using (show D<n by omega)
  have hr:CP (λk=>A7 (f k)) (D+1) D=ofNat (Ai (λk=>A7 (f k)) D):=by simp [CP]
  cases hp:ieq (CP (λk=>A7 (f k)) (D+1) D) (ofNat (Ai (λk=>A7 (f k)) n)) with
  | true =>
   have he:Ai (λk=>A7 (f k)) D=Ai (λk=>A7 (f k)) n:=by
    rw [hr] at hp;have h7:((Ai (λk=>A7 (f k)) D:Nat):Int)=((Ai (λk=>A7 (f k)) n:Nat):Int):=by simpa [ieq] using hp
    omega
   rw [show dn (D+1)=ofNat D from rfl,Ag (Agm L n f _ _ _ j (Cm D) hb1 hk hp),AZ,Pd (show D <= n by omega) hn,Ca,show toN (ofNat D)=D from rfl,K7];exact YC L n f hn D Ab q (by omega) (by omega) λk h3 h4=>by
    by_cases h5:k=D
    ·subst h5; exact he
    ·exact hb k (by omega) h4
  | false =>
   have he:Ai (λk=>A7 (f k)) D ≠ Ai (λk=>A7 (f k)) n:=λe=>by rw [hr,e] at hp; simp [ieq] at hp
   rw [<- GW (λk=>A7 (f k)) n (D+1) h (λk hk e=>he (by have:=AO (λk=>A7 (f k)) (show k <= D by omega); have:=AO (λk=>A7 (f k)) (show D <= n by omega); omega)) hb];exact Ag (Agn L n f _ _ _ j (Cm D) hb1 hk hp)
def Uc:List V->A9
 | [v,.fn g []]=>apL v λn f=>.br (E0 8 (ofNat n) (ofNat n)) (match Nat.beq g 171,Nat.beq g 172 with
  | true,_=>.leaf (.ref 0,[.row 3 1 n λk=>iV (Az (λk=>A2 (f k)) n k)])
  | false,true=>.leaf (.ref 0,[.row 3 1 n λk=>iV (Az (λk=>A7 (f k)) n k)])
  | false,false=>.fail) .fail
 | _=>.fail
theorem TZ (p:Nat->Bool):CP p 0=λ_=>0:=by
 funext k;simp [CP]
theorem PU (p:Nat->Bool) (n:Nat) (h:Ai p n=0):CP p n=Az p n:=by
 funext k;unfold CP Az;by_cases h3:k<n
 ·have:=AO p (show k <= n by omega)
  have h4:Ai p k=0:=by omega
  simp [h3,h,h4]
 ·simp [h3]
theorem Abb (n:Nat) (f:Nat->E6) (hm:E0 8 (ofNat n) (ofNat n)=true) :
  (Ax (Ak tab (Bd Gl tbY [(0,L6 n f),(2,FQ n f)]) Tryz.f175 [AC n f,.fn 171 []] [])).sem=some (.ref 0,[.row 3 1 n λk=>iV (Az (λk=>A2 (f k)) n k)]):=by
 have hn:n <= 4611686018427387904:=by
  simp only [E0,Bool.and_eq_true,decide_eq_true_eq] at hm;have:=hm.2.2.1;simp only [Int.ofNat_eq_natCast] at this;omega
 have hL:=Bh [(0,L6 n f),(2,FQ n f)];have h0:=λL j=>TS L n f hn n 0 j (n+1) (by omega) (by omega);have h2:=λL j=>YB L n f hn n j (n+1) (Nat.le_refl _) (by omega) (λk h1 h2=>by omega);rw [TZ] at h0;rw [<- Pd (Nat.le_refl n) hn] at h2;cases hs:ilt 0 (ofNat (Ai (λk=>A2 (f k)) n)) with
 | true=>exact Bf (Bg (Bg hL hL) hL) _ (Afi _ _ _ n f _ 0 n (CP (λk=>A2 (f k)) n) (Az (λk=>A2 (f k)) n) hm hs (AA (h0 _ _)) (AA (h2 _ _)))
 | false =>rw [<- PU (λk=>A2 (f k)) n (by simpa [ilt] using hs)];exact Bf (Bg hL hL) _ (Afh _ _ n f _ n _ hm hs (AA (h0 _ _)))
theorem Abc (n:Nat) (f:Nat->E6) (hm:E0 8 (ofNat n) (ofNat n)=true) :
  (Ax (Ak tab (Bd Gl tbY [(0,L8 n f),(2,FR n f)]) Tryz.f175 [AC n f,.fn 172 []] [])).sem=some (.ref 0,[.row 3 1 n λk=>iV (Az (λk=>A7 (f k)) n k)]):=by
 have hn:n <= 4611686018427387904:=by
  simp only [E0,Bool.and_eq_true,decide_eq_true_eq] at hm;have:=hm.2.2.1;simp only [Int.ofNat_eq_natCast] at this;omega
 have hL:=Bh [(0,L8 n f),(2,FR n f)];have h0:=λL j=>TT L n f hn n 0 j (n+1) (by omega) (by omega);have h2:=λL j=>YC L n f hn n j (n+1) (Nat.le_refl _) (by omega) (λk h1 h2=>by omega);rw [TZ] at h0;rw [<- Pd (Nat.le_refl n) hn] at h2;cases hs:ilt 0 (ofNat (Ai (λk=>A7 (f k)) n)) with
 | true=>exact Bf (Bg (Bg hL hL) hL) _ (Afk _ _ _ n f _ 0 n (CP (λk=>A7 (f k)) n) (Az (λk=>A7 (f k)) n) hm hs (AA (h0 _ _)) (AA (h2 _ _)))
 | false =>rw [<- PU (λk=>A7 (f k)) n (by simpa [ilt] using hs)];exact Bf (Bg hL hL) _ (Afj _ _ n f _ n _ hm hs (AA (h0 _ _)))
theorem p92:As Tryz.prog Gl 175 Uc:=by
 refine Am A8 mixed Tryz.func175 (by kernel_rfl) (by kernel_rfl) λvs v h' h=>?_;unfold Uc at h;split at h
 ·rename_i u g
  obtain ⟨n,f,ha,h1⟩:=Ck h;obtain ⟨hm,hq⟩:=Ac h1;clear h h1;have hA:BC [u,.fn g []] [AC n f,.fn g []]:=λS w cs hv=>by
   obtain ⟨c,l,rfl,q1,q2⟩:=hv;exact ⟨c,l,rfl,ha S w c q1,q2⟩
  split at hq
  ·rename_i h1
   have h1:=Nat.eq_of_beq_eq_true h1;subst h1;have:=Aa hq;simp only [Prod.mk.injEq] at this;obtain ⟨rfl,rfl⟩:=this;have hx:=Bi Mz [(0,L6 n f),(2,FQ n f)];exact ⟨_,Bd Gl tbY [(0,L6 n f),(2,FQ n f)],_,hA,rfl,hx.1,hx.2,Abb n f hm,Aw.refl _⟩
  ·rename_i h1
   have h1:=Nat.eq_of_beq_eq_true h1;subst h1;have:=Aa hq;simp only [Prod.mk.injEq] at this;obtain ⟨rfl,rfl⟩:=this;have hx:=Bi Mz [(0,L8 n f),(2,FR n f)];exact ⟨_,Bd Gl tbY [(0,L8 n f),(2,FR n f)],_,hA,rfl,hx.1,hx.2,Abc n f hm,Aw.refl _⟩
  ·cases hq
 ·cases h
end Go.Proofs.YtkbafjceglhjhaaGreatDoor.Ed
namespace Go.Proofs.YtkbafjceglhjhaaGreatDoor.Ed
open Go.Sy
end Go.Proofs.YtkbafjceglhjhaaGreatDoor.Ed
namespace Go.Proofs.YtkbafjceglhjhaaGreatDoor.Ed
open Go.Sy
def okI (v:V):Bool:=match gI v with
 | some _=>true
 | none=>false
def edI (v:V):Int:=match gI v with
 | some e=>e
 | none=>0
theorem MN {v:V} (h:okI v=true):v=iV (edI v):=by
 unfold okI at h;unfold edI;split at h
 ·rename_i e he
  exact FV he
 ·cases h
def EJ (n:Nat) (f:Nat->Int):V:=.sl 1 n λi=>iV (f i)
def Xz:V->Option (Nat×(Nat->V))
 | .sl s n g=>match Nat.beq s 1 with
  | true=>some (n,g)
  | false=>none
 | _=>none
def apI {α:Type} (v:V) (F:Nat->(Nat->Int)->T α):T α :=
 match Xz v with
 | some (n,g)=>.br (Be n λi=>okI (g i)) (F n λi=>edI (g i)) .fail
 | none=>.fail
theorem FB {α:Type} {v:V} {F:Nat->(Nat->Int)->T α} {r:α} (h:(apI v F).sem=some r) :
  ∃ n f,(∀ (S:Nat->Prop) (w:World) (c:Value),VR S w v noK c->VR S w (EJ n f) noK c)∧(F n f).sem=some r:=by
 unfold apI at h;split at h
 ·rename_i n g hg
  obtain ⟨h1,h2⟩:=Ac h;have h1:=AE.1 h1;refine ⟨n,_,λS w c hv=>?_,h2⟩;unfold Xz at hg;split at hg
  ·rename_i s n' g'
   split at hg
   ·rename_i hs
    simp only [Option.some.injEq,Prod.mk.injEq] at hg;obtain ⟨rfl,rfl⟩:=hg;have hs:s=1:=Nat.eq_of_beq_eq_true hs;subst hs;obtain ⟨a,cap,e,hc,hb⟩:=hv;refine ⟨a,cap,e,hc,hb.imp id ?_⟩
    rintro ⟨b,o,ea,hel⟩
    refine ⟨b,o,ea,λi hi=>?_⟩;have:=hel i hi;rw [MN (h1 i hi)] at this;exact this
   ·cases hg
  ·cases hg
 ·cases h
def apI2 (F:Nat->(Nat->Int)->Nat->(Nat->Int)->A9):List V->A9
 | [v,u]=>apI v λn f=>apI u λm g=>F n f m g
 | _=>.fail
def Adu (F:Nat->(Nat->Int)->A9):List V->A9
 | [v]=>apI v F
 | _=>.fail
theorem Pv {F:Nat->(Nat->Int)->A9} {vs:List V} {r:V×List Blk} (h:(Adu F vs).sem=some r):∃ n f,BC vs [EJ n f]∧(F n f).sem=some r:=by
 unfold Adu at h;split at h
 ·obtain ⟨n,f,h1,h2⟩:=FB h
  refine ⟨n,f,λS w cs hv=>?_,h2⟩;obtain ⟨c,l,rfl,q1,q2⟩:=hv;exact ⟨c,l,rfl,h1 S w c q1,q2⟩
 ·cases h
def okB (v:V):Bool:=match gB v with
 | some _=>true
 | none=>false
def edB (v:V):Bool:=match gB v with
 | some e=>e
 | none=>false
theorem Zc {v:V} (h:okB v=true):v=bV (edB v):=by
 unfold okB at h;unfold edB;split at h
 ·rename_i e he
  exact Qy he
 ·cases h
def UT (n:Nat) (f:Nat->Bool):V:=.sl 1 n λi=>bV (f i)
def apB {α:Type} (v:V) (F:Nat->(Nat->Bool)->T α):T α :=
 match Xz v with
 | some (n,g)=>.br (Be n λi=>okB (g i)) (F n λi=>edB (g i)) .fail
 | none=>.fail
theorem AaF {α:Type} {v:V} {F:Nat->(Nat->Bool)->T α} {r:α} (h:(apB v F).sem=some r) :
  ∃ n f,(∀ (S:Nat->Prop) (w:World) (c:Value),VR S w v noK c->VR S w (UT n f) noK c)∧(F n f).sem=some r:=by
 unfold apB at h;split at h
 ·rename_i n g hg
  obtain ⟨h1,h2⟩:=Ac h;have h1:=AE.1 h1;refine ⟨n,_,λS w c hv=>?_,h2⟩;unfold Xz at hg;split at hg
  ·rename_i s n' g'
   split at hg
   ·rename_i hs
    simp only [Option.some.injEq,Prod.mk.injEq] at hg;obtain ⟨rfl,rfl⟩:=hg;have hs:s=1:=Nat.eq_of_beq_eq_true hs;subst hs;obtain ⟨a,cap,e,hc,hb⟩:=hv;refine ⟨a,cap,e,hc,hb.imp id ?_⟩
    rintro ⟨b,o,ea,hel⟩
    refine ⟨b,o,ea,λi hi=>?_⟩;have:=hel i hi;rw [Zc (h1 i hi)] at this;exact this
   ·cases hg
  ·cases hg
 ·cases h
end Go.Proofs.YtkbafjceglhjhaaGreatDoor.Ed
