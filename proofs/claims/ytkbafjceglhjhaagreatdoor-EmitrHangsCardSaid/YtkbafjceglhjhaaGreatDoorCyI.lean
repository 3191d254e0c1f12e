/-
  Layer 4: the parts of a cycle. No conditions.
-/
import Derived.Test.YtkbafjceglhjhaaGreatDoorCyB
import Derived.Test.YtkbafjceglhjhaaGreatDoorSyU
namespace Go.Proofs.YtkbafjceglhjhaaGreatDoor.Ed
open Go.Sy
open Int (ofNat)
def CC (p:Nat->Bool) (i k:Nat):Int:=bif decide (k<i) then ofNat (Ai p k) else 0
def A1 (p:Nat->Bool) (n k:Nat):Int:=bif decide (k<n) then (bif decide (Ai p k=Ai p n) then 0 else ofNat (Ai p k)) else 0
def Hr (h:Nat->Int) (i:Nat) (s:Int) (k:Nat):Int:=bif decide (k=i) then s else h k
theorem Ch (h:Nat->Int) (i:Nat) (s:Int):BF (λk=>iV (h k)) i (iV s)=λk=>iV (Hr h i s k):=by
 funext k;rw [Fe,show Nat.beq k i=decide (k=i) by rw [Bool.eq_iff_iff]; simp];unfold Hr;cases decide (k=i) <;> rfl
theorem Jk (p:Nat->Bool) (i:Nat):Hr (CC p i) i (ofNat (Ai p i))=CC p (i+1):=by
 funext k;unfold Hr CC;by_cases h:k=i
 ·subst h; simp
 ·by_cases h2:k<i
  ·have:k<i+1:=by omega
   simp [h,h2,this]
  ·have:¬ k<i+1:=by omega
   simp [h,h2,this]
theorem Kp (p:Nat->Bool) (i:Nat):Hr (CC p (i+1)) i 0=CC p i:=by
 funext k;unfold Hr CC;by_cases h:k=i
 ·subst h; simp
 ·by_cases h2:k<i
  ·have:k<i+1:=by omega
   simp [h,h2,this]
  ·have:¬ k<i+1:=by omega
   simp [h,h2,this]
def dn:Nat->Int
 | 0=>-1
 | D+1=>ofNat D
theorem OF {D n:Nat} (h:D <= n) (hn:n <= 4611686018427387904):wr .i64 (Bn (ofNat D) 1)=dn D:=by
 cases D with
 | zero=>rfl
 | succ D =>unfold wr Bn IntKind.wrap dn;simp [IntKind.bits,IntKind.signed];omega
theorem AT (p:Nat->Bool):∀ {i k:Nat},i <= k->Ai p i <= Ai p k
 | i,0,h=>by
  have:i=0:=by omega
  subst this;exact Nat.le_refl _
 | i,k+1,h=>by
  by_cases h2:i=k+1
  ·subst h2; exact Nat.le_refl _
  ·have:=AT p (show i <= k by omega)
   refine Nat.le_trans this ?_;rw [show Ai p (k+1)=(match p k with | true=>Ai p k+1 | false=>Ai p k) from rfl]
   cases p k
   ·exact Nat.le_refl _
   ·exact Nat.le_succ _
theorem GL (p:Nat->Bool) (n D:Nat) (h:D <= n) (h1:∀ k,k<D->Ai p k ≠ Ai p n) (h2:∀ k,D <= k->k<n->Ai p k=Ai p n):CC p D=A1 p n:=by
 funext k;unfold CC A1;by_cases h3:k<D
 ·have h4:k<n:=by omega
  simp [h3,h4,h1 k h3]
 ·by_cases h4:k<n
  ·simp [h3,h4,h2 k (by omega) h4]
  ·simp [h3,h4]
def Lk (n:Nat) (f:Nat->E6):Lp:=⟨bmK 51 0 [0,1,5,6,13,14,15],2,bmK 51 0 [0,5,6],2,n+1⟩
def Oc (n:Nat) (f:Nat->E6) (s:Int) (i:Nat) (h:Nat->Int) (j:Nat->V):St:=⟨jsV 51 0 j [(0,.sl 6 n (λi=>eV (f i))),(1,.fn 171 []),(5,.ref 1),(6,iV s),(13,.sl 6 n (λi=>eV (f i))),(14,nV n),(15,nV i)],[.row 3 1 0 Ac,.row 3 1 n (λk=>iV (h k))]⟩
def KI (n:Nat) (f:Nat->E6) (s:Int) (i:Nat) (h:Nat->Int):Ex×St:=(.ex 0,⟨jsV 51 0 Ac [(0,.sl 6 n (λi=>eV (f i))),(5,.ref 1),(6,iV s)],[.row 3 1 0 Ac,.row 3 1 n (λk=>iV (h k))]⟩)
noncomputable def Iu (L:LT):St->T (Ex×St):=λst=>AI tab ⟨Az tbY,L,Gl⟩ (A0 Tryz.f175 0) 0 st
section
variable (L:LT) (n:Nat) (f:Nat->E6) (s:Int) (i:Nat) (h:Nat->Int)  (j:Nat->V)
include L n f s i h j
theorem Aex (h0:ilt (ofNat i) (ofNat n)=false):Au (Iu L) (Lk n f) (Oc n f s i h j)=some ((.ex 0),⟨jsV 51 0 Ac [(0,.sl 6 n (λi=>eV (f i))),(5,.ref 1),(6,iV s)],[.row 3 1 0 Ac,.row 3 1 n (λk=>iV (h k))]⟩):=by
 exact Ad (ks:=[kn h0]) (by kernel_rfl)
theorem Aev (h0:ilt (ofNat i) (ofNat n)=true) (h1:Aj (ile 0 (ofNat i)) (ilt (ofNat i) (ofNat n))=true) (h2:nlt i n=true) (h3:Ay (f i)=true):Au (Iu L) (Lk n f) (Oc n f s i h j)=some (.nm,⟨jsV 51 0 Ac [(0,.sl 6 n (λi=>eV (f i))),(1,.fn 171 []),(5,.ref 1),(6,iV (wr .i64 (Ah s 1))),(13,.sl 6 n (λi=>eV (f i))),(14,nV n),(15,iV (wr .i64 (Ah (ofNat i) 1)))],[.row 3 1 0 Ac,.row 3 1 n (BF (λk=>iV (h k)) i (iV s))]⟩):=by
 exact Ad (ks:=[kn h0,kn h1,kn h1,kn h2,kn h3]) (by kernel_rfl)
theorem Aew (h0:ilt (ofNat i) (ofNat n)=true) (h1:Aj (ile 0 (ofNat i)) (ilt (ofNat i) (ofNat n))=true) (h2:nlt i n=true) (h3:Ay (f i)=false):Au (Iu L) (Lk n f) (Oc n f s i h j)=some (.nm,⟨jsV 51 0 Ac [(0,.sl 6 n (λi=>eV (f i))),(1,.fn 171 []),(5,.ref 1),(6,iV s),(13,.sl 6 n (λi=>eV (f i))),(14,nV n),(15,iV (wr .i64 (Ah (ofNat i) 1)))],[.row 3 1 0 Ac,.row 3 1 n (BF (λk=>iV (h k)) i (iV s))]⟩):=by
 exact Ad (ks:=[kn h0,kn h1,kn h1,kn h2,kn h3]) (by kernel_rfl)
end
def AcO (n:Nat) (f:Nat->E6) :Nat->V:=lkV AD [(4,.ref 0),(10,.sl 6 n (λi=>eV (f i))),(11,nV n),(12,.ref 1)]
def FK (n:Nat) (f:Nat->E6):Lp:=⟨bmK 51 0 [5,6,9],2,bmK 51 0 [5],2,n+1⟩
def Jt (n:Nat) (f:Nat->E6) (s d:Int) (h:Nat->Int) (j:Nat->V):St:=⟨jsV 51 0 j [(5,.ref 1),(6,iV s),(9,iV d)],[.row 3 1 0 Ac,.row 3 1 n (λk=>iV (h k))]⟩
def JK (n:Nat) (f:Nat->E6) (s d:Int) (h:Nat->Int):Ex×St:=(.ex 2,⟨jsV 51 0 Ac [(5,.ref 1)],[.row 3 1 0 Ac,.row 3 1 n (λk=>iV (h k))]⟩)
noncomputable def G4 (L:LT):St->T (Ex×St):=λst=>AI tab ⟨Az tbY,L,Gl⟩ (A0 Tryz.f175 2) 2 st
section
variable (L:LT) (n:Nat) (f:Nat->E6) (s d:Int) (h:Nat->Int)  (j:Nat->V)
include L n f s d h j
theorem Aeh (h0:ile 0 d=false):Au (G4 L) (FK n f) (Jt n f s d h j)=some ((.ex 2),⟨jsV 51 0 Ac [(5,.ref 1)],[.row 3 1 0 Ac,.row 3 1 n (λk=>iV (h k))]⟩):=by
 exact Ad (ks:=[kn h0,kn h0,kn h0,kn h0,kn h0,kn h0,kn h0,kF]) (by kernel_rfl)
theorem Aeg (h0:ile 0 d=true) (h1:Aj (ile 0 d) (ilt d (ofNat n))=true) (h2:nlt (toN d) n=true) (h3:ieq (h (toN d)) s=false):Au (G4 L) (FK n f) (Jt n f s d h j)=some ((.ex 2),⟨jsV 51 0 Ac [(5,.ref 1)],[.row 3 1 0 Ac,.row 3 1 n (λk=>iV (h k))]⟩):=by
 exact Ad (ks:=[kn h0,kn h0,kn h0,kn h1,kn h0,kn h2,kn h0,kn h0,kn h0,kn h3]) (by kernel_rfl)
theorem Aef (h0:ile 0 d=true) (h1:Aj (ile 0 d) (ilt d (ofNat n))=true) (h2:nlt (toN d) n=true) (h3:ieq (h (toN d)) s=true):Au (G4 L) (FK n f) (Jt n f s d h j)=some (.nm,⟨jsV 51 0 Ac [(5,.ref 1),(6,iV s),(9,iV (wr .i64 (Bn d 1)))],[.row 3 1 0 Ac,.row 3 1 n (BF (λk=>iV (h k)) (toN d) (iV 0))]⟩):=by
 exact Ad (ks:=[kn h0,kn h0,kn h0,kn h1,kn h0,kn h2,kn h0,kn h0,kn h0,kn h3,kn h1,kn h2]) (by kernel_rfl)
end
def Ab0 (n:Nat) (f:Nat->E6) (s:Int) (i:Nat) (h:Nat->Int):Nat->V:=lkU 2251766527688094 [(0,.sl 6 n (λi=>eV (f i))),(30,iV s),(31,bV (ilt 0 s)),(32,.sl 6 n (λi=>eV (f i))),(33,nV n),(34,iV (wr .i64 (Bn (ofNat n) 1)))]
theorem Adv (L:LT) (p0:PT) (n:Nat) (f:Nat->E6) (s:Int) (i:Nat) (h:Nat->Int) (h0:Eu 8 (ofNat n) (ofNat n)=true) (h1:ilt 0 s=false) (hp0:p0 (Iu (onP 0 p0 (KI n f s i h) L)) (Oc n f 0 0 (λ_=>0) (AcO n f ))=true):(A7 (An tab ⟨Az tbY,onP 0 p0 (KI n f s i h) L,Gl⟩ Tryz.f175 [A9 n f,.fn 171 []] [])).sem=some ((.ref 0),[.row 3 1 n (λk=>iV (h k))]):=by
 exact Ad (ks:=[kn h0,kn hp0,kn h1]) (by kernel_rfl)
theorem Adw (L:LT) (p0:PT) (p2:PT) (n:Nat) (f:Nat->E6) (s d:Int) (i:Nat) (h g:Nat->Int) (h0:Eu 8 (ofNat n) (ofNat n)=true) (h1:ilt 0 s=true) (hp0:p0 (Iu (onP 0 p0 (KI n f s i h) (onP 2 p2 (JK n f s d g) L))) (Oc n f 0 0 (λ_=>0) (AcO n f ))=true) (hp2:p2 (G4 (onP 0 p0 (KI n f s i h) (onP 2 p2 (JK n f s d g) L))) (Jt n f s (wr .i64 (Bn (ofNat n) 1)) h (Ab0 n f s i h))=true):(A7 (An tab ⟨Az tbY,onP 0 p0 (KI n f s i h) (onP 2 p2 (JK n f s d g) L),Gl⟩ Tryz.f175 [A9 n f,.fn 171 []] [])).sem=some ((.ref 0),[.row 3 1 n (λk=>iV (g k))]):=by
 exact Ad (ks:=[kn h0,kn hp0,kn h1,kn hp2]) (by kernel_rfl)
def Ll (n:Nat) (f:Nat->E6):Lp:=⟨bmK 51 0 [0,1,5,6,13,14,15],2,bmK 51 0 [0,5,6],2,n+1⟩
def Od (n:Nat) (f:Nat->E6) (s:Int) (i:Nat) (h:Nat->Int) (j:Nat->V):St:=⟨jsV 51 0 j [(0,.sl 6 n (λi=>eV (f i))),(1,.fn 172 []),(5,.ref 1),(6,iV s),(13,.sl 6 n (λi=>eV (f i))),(14,nV n),(15,nV i)],[.row 3 1 0 Ac,.row 3 1 n (λk=>iV (h k))]⟩
def KJ (n:Nat) (f:Nat->E6) (s:Int) (i:Nat) (h:Nat->Int):Ex×St:=(.ex 0,⟨jsV 51 0 Ac [(0,.sl 6 n (λi=>eV (f i))),(5,.ref 1),(6,iV s)],[.row 3 1 0 Ac,.row 3 1 n (λk=>iV (h k))]⟩)
noncomputable def Iv (L:LT):St->T (Ex×St):=λst=>AI tab ⟨Az tbY,L,Gl⟩ (A0 Tryz.f175 0) 0 st
section
variable (L:LT) (n:Nat) (f:Nat->E6) (s:Int) (i:Nat) (h:Nat->Int)  (j:Nat->V)
include L n f s i h j
theorem Ae0 (h0:ilt (ofNat i) (ofNat n)=false):Au (Iv L) (Ll n f) (Od n f s i h j)=some ((.ex 0),⟨jsV 51 0 Ac [(0,.sl 6 n (λi=>eV (f i))),(5,.ref 1),(6,iV s)],[.row 3 1 0 Ac,.row 3 1 n (λk=>iV (h k))]⟩):=by
 exact Ad (ks:=[kn h0]) (by kernel_rfl)
theorem Aey (h0:ilt (ofNat i) (ofNat n)=true) (h1:Aj (ile 0 (ofNat i)) (ilt (ofNat i) (ofNat n))=true) (h2:nlt i n=true) (h3:A4 (f i)=true):Au (Iv L) (Ll n f) (Od n f s i h j)=some (.nm,⟨jsV 51 0 Ac [(0,.sl 6 n (λi=>eV (f i))),(1,.fn 172 []),(5,.ref 1),(6,iV (wr .i64 (Ah s 1))),(13,.sl 6 n (λi=>eV (f i))),(14,nV n),(15,iV (wr .i64 (Ah (ofNat i) 1)))],[.row 3 1 0 Ac,.row 3 1 n (BF (λk=>iV (h k)) i (iV s))]⟩):=by
 exact Ad (ks:=[kn h0,kn h1,kn h1,kn h2,kn h3]) (by kernel_rfl)
theorem Aez (h0:ilt (ofNat i) (ofNat n)=true) (h1:Aj (ile 0 (ofNat i)) (ilt (ofNat i) (ofNat n))=true) (h2:nlt i n=true) (h3:A4 (f i)=false):Au (Iv L) (Ll n f) (Od n f s i h j)=some (.nm,⟨jsV 51 0 Ac [(0,.sl 6 n (λi=>eV (f i))),(1,.fn 172 []),(5,.ref 1),(6,iV s),(13,.sl 6 n (λi=>eV (f i))),(14,nV n),(15,iV (wr .i64 (Ah (ofNat i) 1)))],[.row 3 1 0 Ac,.row 3 1 n (BF (λk=>iV (h k)) i (iV s))]⟩):=by
 exact Ad (ks:=[kn h0,kn h1,kn h1,kn h2,kn h3]) (by kernel_rfl)
end
def AcP (n:Nat) (f:Nat->E6) :Nat->V:=lkV AD [(4,.ref 0),(10,.sl 6 n (λi=>eV (f i))),(11,nV n),(12,.ref 1)]
def FL (n:Nat) (f:Nat->E6):Lp:=⟨bmK 51 0 [5,6,9],2,bmK 51 0 [5],2,n+1⟩
def Ju (n:Nat) (f:Nat->E6) (s d:Int) (h:Nat->Int) (j:Nat->V):St:=⟨jsV 51 0 j [(5,.ref 1),(6,iV s),(9,iV d)],[.row 3 1 0 Ac,.row 3 1 n (λk=>iV (h k))]⟩
def JL (n:Nat) (f:Nat->E6) (s d:Int) (h:Nat->Int):Ex×St:=(.ex 2,⟨jsV 51 0 Ac [(5,.ref 1)],[.row 3 1 0 Ac,.row 3 1 n (λk=>iV (h k))]⟩)
noncomputable def G5 (L:LT):St->T (Ex×St):=λst=>AI tab ⟨Az tbY,L,Gl⟩ (A0 Tryz.f175 2) 2 st
section
variable (L:LT) (n:Nat) (f:Nat->E6) (s d:Int) (h:Nat->Int)  (j:Nat->V)
include L n f s d h j
theorem Aek (h0:ile 0 d=false):Au (G5 L) (FL n f) (Ju n f s d h j)=some ((.ex 2),⟨jsV 51 0 Ac [(5,.ref 1)],[.row 3 1 0 Ac,.row 3 1 n (λk=>iV (h k))]⟩):=by
 exact Ad (ks:=[kn h0,kn h0,kn h0,kn h0,kn h0,kn h0,kn h0,kF]) (by kernel_rfl)
theorem Aej (h0:ile 0 d=true) (h1:Aj (ile 0 d) (ilt d (ofNat n))=true) (h2:nlt (toN d) n=true) (h3:ieq (h (toN d)) s=false):Au (G5 L) (FL n f) (Ju n f s d h j)=some ((.ex 2),⟨jsV 51 0 Ac [(5,.ref 1)],[.row 3 1 0 Ac,.row 3 1 n (λk=>iV (h k))]⟩):=by
 exact Ad (ks:=[kn h0,kn h0,kn h0,kn h1,kn h0,kn h2,kn h0,kn h0,kn h0,kn h3]) (by kernel_rfl)
theorem Aei (h0:ile 0 d=true) (h1:Aj (ile 0 d) (ilt d (ofNat n))=true) (h2:nlt (toN d) n=true) (h3:ieq (h (toN d)) s=true):Au (G5 L) (FL n f) (Ju n f s d h j)=some (.nm,⟨jsV 51 0 Ac [(5,.ref 1),(6,iV s),(9,iV (wr .i64 (Bn d 1)))],[.row 3 1 0 Ac,.row 3 1 n (BF (λk=>iV (h k)) (toN d) (iV 0))]⟩):=by
 exact Ad (ks:=[kn h0,kn h0,kn h0,kn h1,kn h0,kn h2,kn h0,kn h0,kn h0,kn h3,kn h1,kn h2]) (by kernel_rfl)
end
def Ab1 (n:Nat) (f:Nat->E6) (s:Int) (i:Nat) (h:Nat->Int):Nat->V:=lkU 2251766527688094 [(0,.sl 6 n (λi=>eV (f i))),(30,iV s),(31,bV (ilt 0 s)),(32,.sl 6 n (λi=>eV (f i))),(33,nV n),(34,iV (wr .i64 (Bn (ofNat n) 1)))]
theorem Adx (L:LT) (p0:PT) (n:Nat) (f:Nat->E6) (s:Int) (i:Nat) (h:Nat->Int) (h0:Eu 8 (ofNat n) (ofNat n)=true) (h1:ilt 0 s=false) (hp0:p0 (Iv (onP 0 p0 (KJ n f s i h) L)) (Od n f 0 0 (λ_=>0) (AcP n f ))=true):(A7 (An tab ⟨Az tbY,onP 0 p0 (KJ n f s i h) L,Gl⟩ Tryz.f175 [A9 n f,.fn 172 []] [])).sem=some ((.ref 0),[.row 3 1 n (λk=>iV (h k))]):=by
 exact Ad (ks:=[kn h0,kn hp0,kn h1]) (by kernel_rfl)
theorem Ady (L:LT) (p0:PT) (p2:PT) (n:Nat) (f:Nat->E6) (s d:Int) (i:Nat) (h g:Nat->Int) (h0:Eu 8 (ofNat n) (ofNat n)=true) (h1:ilt 0 s=true) (hp0:p0 (Iv (onP 0 p0 (KJ n f s i h) (onP 2 p2 (JL n f s d g) L))) (Od n f 0 0 (λ_=>0) (AcP n f ))=true) (hp2:p2 (G5 (onP 0 p0 (KJ n f s i h) (onP 2 p2 (JL n f s d g) L))) (Ju n f s (wr .i64 (Bn (ofNat n) 1)) h (Ab1 n f s i h))=true):(A7 (An tab ⟨Az tbY,onP 0 p0 (KJ n f s i h) (onP 2 p2 (JL n f s d g) L),Gl⟩ Tryz.f175 [A9 n f,.fn 172 []] [])).sem=some ((.ref 0),[.row 3 1 n (λk=>iV (g k))]):=by
 exact Ad (ks:=[kn h0,kn hp0,kn h1,kn hp2]) (by kernel_rfl)
theorem Tj (L:LT) (n:Nat) (f:Nat->E6) (hn:n <= 4611686018427387904):∀ (e i:Nat) (j:Nat->V) (q:Nat),n=i+e->e<q ->
  (A3 (Iu L) (Lk n f) q (Oc n f (ofNat (Ai (λk=>Ay (f k)) i)) i (CC (λk=>Ay (f k)) i) j)).sem=some (KI n f (ofNat (Ai (λk=>Ay (f k)) n)) n (CC (λk=>Ay (f k)) n))
 | 0,i,j,q+1,h,_=>by
  have:n=i:=by omega
  subst this;exact Ag (Aex L n f _ _ _ j (Av (Nat.le_refl _)))
 | e+1,i,j,q+1,h,h2=>by
  have hc:=B5 (λk=>Ay (f k)) i;have hl:ilt (ofNat i) (ofNat n)=true:=ofNat_lt (by omega);have hb:Aj (ile 0 (ofNat i)) (ilt (ofNat i) (ofNat n))=true:=by rw [Ci,hl]; rfl
  have hk:nlt i n=true:=by simpa [nlt] using (show i<n by omega)
  cases hp:Ay (f i) with
  | true =>
   rw [Ag (Aev L n f _ i _ j hl hb hk hp),AW,Ax (show i<n by omega) hn,Ax (show Ai (λk=>Ay (f k)) i<n by omega) hn,
    show Ai (λk=>Ay (f k)) i+1=Ai (λk=>Ay (f k)) (i+1) by rw [Ai,hp],Ch,Jk]
   exact Tj L n f hn e (i+1) Ac q (by omega) (by omega)
  | false =>
   rw [Ag (Aew L n f _ i _ j hl hb hk hp),AW,Ax (show i<n by omega) hn,Ch,Jk,
    show Ai (λk=>Ay (f k)) i=Ai (λk=>Ay (f k)) (i+1) by rw [Ai,hp]]
   exact Tj L n f hn e (i+1) Ac q (by omega) (by omega)
theorem XK (L:LT) (n:Nat) (f:Nat->E6) (hn:n <= 4611686018427387904):∀ (D:Nat) (j:Nat->V) (q:Nat),D <= n->D<q->(∀ k,D <= k->k<n->Ai (λk=>Ay (f k)) k=Ai (λk=>Ay (f k)) n) ->
  (A3 (G4 L) (FK n f) q (Jt n f (ofNat (Ai (λk=>Ay (f k)) n)) (dn D) (CC (λk=>Ay (f k)) D) j)).sem=some (JK n f 0 0 (A1 (λk=>Ay (f k)) n))
 | 0,j,q+1,h,_,hb=>by
  rw [<- GL (λk=>Ay (f k)) n 0 h (λk hk=>absurd hk (Nat.not_lt_zero _)) hb];exact Ag (Aeh L n f _ _ _ j rfl)
 | D+1,j,q+1,h,h2,hb=>by
  have hl:ilt (ofNat D) (ofNat n)=true:=ofNat_lt (by omega);have hb1:Aj (ile 0 (ofNat D)) (ilt (ofNat D) (ofNat n))=true:=by rw [Ci,hl]; rfl
  have hk:nlt D n=true:=by simpa [nlt] using (show D<n by omega)
  have hr:CC (λk=>Ay (f k)) (D+1) D=ofNat (Ai (λk=>Ay (f k)) D):=by simp [CC]
  cases hp:ieq (CC (λk=>Ay (f k)) (D+1) D) (ofNat (Ai (λk=>Ay (f k)) n)) with
  | true =>
   have he:Ai (λk=>Ay (f k)) D=Ai (λk=>Ay (f k)) n:=by
    rw [hr] at hp;have h7:((Ai (λk=>Ay (f k)) D:Nat):Int)=((Ai (λk=>Ay (f k)) n:Nat):Int):=by simpa [ieq] using hp
    omega
   rw [show dn (D+1)=ofNat D from rfl,Ag (Aef L n f _ _ _ j (Ci D) hb1 hk hp),AW,OF (show D <= n by omega) hn,Ch,show toN (ofNat D)=D from rfl,Kp];exact XK L n f hn D Ac q (by omega) (by omega) λk h3 h4=>by
    by_cases h5:k=D
    ·subst h5; exact he
    ·exact hb k (by omega) h4
  | false =>
   have he:Ai (λk=>Ay (f k)) D ≠ Ai (λk=>Ay (f k)) n:=λe=>by rw [hr,e] at hp; simp [ieq] at hp
   rw [<- GL (λk=>Ay (f k)) n (D+1) h (λk hk e=>he (by have:=AT (λk=>Ay (f k)) (show k <= D by omega); have:=AT (λk=>Ay (f k)) (show D <= n by omega); omega)) hb];exact Ag (Aeg L n f _ _ _ j (Ci D) hb1 hk hp)
theorem Tk (L:LT) (n:Nat) (f:Nat->E6) (hn:n <= 4611686018427387904):∀ (e i:Nat) (j:Nat->V) (q:Nat),n=i+e->e<q ->
  (A3 (Iv L) (Ll n f) q (Od n f (ofNat (Ai (λk=>A4 (f k)) i)) i (CC (λk=>A4 (f k)) i) j)).sem=some (KJ n f (ofNat (Ai (λk=>A4 (f k)) n)) n (CC (λk=>A4 (f k)) n))
 | 0,i,j,q+1,h,_=>by
  have:n=i:=by omega
  subst this;exact Ag (Ae0 L n f _ _ _ j (Av (Nat.le_refl _)))
 | e+1,i,j,q+1,h,h2=>by
  have hc:=B5 (λk=>A4 (f k)) i;have hl:ilt (ofNat i) (ofNat n)=true:=ofNat_lt (by omega);have hb:Aj (ile 0 (ofNat i)) (ilt (ofNat i) (ofNat n))=true:=by rw [Ci,hl]; rfl
  have hk:nlt i n=true:=by simpa [nlt] using (show i<n by omega)
  cases hp:A4 (f i) with
  | true =>
   rw [Ag (Aey L n f _ i _ j hl hb hk hp),AW,Ax (show i<n by omega) hn,Ax (show Ai (λk=>A4 (f k)) i<n by omega) hn,
    show Ai (λk=>A4 (f k)) i+1=Ai (λk=>A4 (f k)) (i+1) by rw [Ai,hp],Ch,Jk]
   exact Tk L n f hn e (i+1) Ac q (by omega) (by omega)
  | false =>
   rw [Ag (Aez L n f _ i _ j hl hb hk hp),AW,Ax (show i<n by omega) hn,Ch,Jk,
    show Ai (λk=>A4 (f k)) i=Ai (λk=>A4 (f k)) (i+1) by rw [Ai,hp]]
   exact Tk L n f hn e (i+1) Ac q (by omega) (by omega)
theorem XL (L:LT) (n:Nat) (f:Nat->E6) (hn:n <= 4611686018427387904):∀ (D:Nat) (j:Nat->V) (q:Nat),D <= n->D<q->(∀ k,D <= k->k<n->Ai (λk=>A4 (f k)) k=Ai (λk=>A4 (f k)) n) ->
  (A3 (G5 L) (FL n f) q (Ju n f (ofNat (Ai (λk=>A4 (f k)) n)) (dn D) (CC (λk=>A4 (f k)) D) j)).sem=some (JL n f 0 0 (A1 (λk=>A4 (f k)) n))
 | 0,j,q+1,h,_,hb=>by
  rw [<- GL (λk=>A4 (f k)) n 0 h (λk hk=>absurd hk (Nat.not_lt_zero _)) hb];exact Ag (Aek L n f _ _ _ j rfl)
 | D+1,j,q+1,h,h2,hb=>by
  have hl:ilt (ofNat D) (ofNat n)=true:=ofNat_lt (by omega);have hb1:Aj (ile 0 (ofNat D)) (ilt (ofNat D) (ofNat n))=true:=by rw [Ci,hl]; rfl
  have hk:nlt D n=true:=by simpa [nlt] using (show D<n by omega)
  have hr:CC (λk=>A4 (f k)) (D+1) D=ofNat (Ai (λk=>A4 (f k)) D):=by simp [CC]
  cases hp:ieq (CC (λk=>A4 (f k)) (D+1) D) (ofNat (Ai (λk=>A4 (f k)) n)) with
  | true =>
   have he:Ai (λk=>A4 (f k)) D=Ai (λk=>A4 (f k)) n:=by
    rw [hr] at hp;have h7:((Ai (λk=>A4 (f k)) D:Nat):Int)=((Ai (λk=>A4 (f k)) n:Nat):Int):=by simpa [ieq] using hp
    omega
   rw [show dn (D+1)=ofNat D from rfl,Ag (Aei L n f _ _ _ j (Ci D) hb1 hk hp),AW,OF (show D <= n by omega) hn,Ch,show toN (ofNat D)=D from rfl,Kp];exact XL L n f hn D Ac q (by omega) (by omega) λk h3 h4=>by
    by_cases h5:k=D
    ·subst h5; exact he
    ·exact hb k (by omega) h4
  | false =>
   have he:Ai (λk=>A4 (f k)) D ≠ Ai (λk=>A4 (f k)) n:=λe=>by rw [hr,e] at hp; simp [ieq] at hp
   rw [<- GL (λk=>A4 (f k)) n (D+1) h (λk hk e=>he (by have:=AT (λk=>A4 (f k)) (show k <= D by omega); have:=AT (λk=>A4 (f k)) (show D <= n by omega); omega)) hb];exact Ag (Aej L n f _ _ _ j (Ci D) hb1 hk hp)
def Tt:List V->AB
 | [v,.fn g []]=>apL v λn f=>.br (Eu 8 (ofNat n) (ofNat n)) (match Nat.beq g 171,Nat.beq g 172 with
  | true,_=>.leaf (.ref 0,[.row 3 1 n λk=>iV (A1 (λk=>Ay (f k)) n k)])
  | false,true=>.leaf (.ref 0,[.row 3 1 n λk=>iV (A1 (λk=>A4 (f k)) n k)])
  | false,false=>.fail) .fail
 | _=>.fail
theorem Tq (p:Nat->Bool):CC p 0=λ_=>0:=by
 funext k;simp [CC]
theorem Py (p:Nat->Bool) (n:Nat) (h:Ai p n=0):CC p n=A1 p n:=by
 funext k;unfold CC A1;by_cases h3:k<n
 ·have:=AT p (show k <= n by omega)
  have h4:Ai p k=0:=by omega
  simp [h3,h,h4]
 ·simp [h3]
theorem ZT (n:Nat) (f:Nat->E6) (hm:Eu 8 (ofNat n) (ofNat n)=true) :
  (A7 (An tab (Br Gl tbY [(0,Lk n f),(2,FK n f)]) Tryz.f175 [A9 n f,.fn 171 []] [])).sem=some (.ref 0,[.row 3 1 n λk=>iV (A1 (λk=>Ay (f k)) n k)]):=by
 have hn:n <= 4611686018427387904:=by
  simp only [Eu,Bool.and_eq_true,decide_eq_true_eq] at hm;have:=hm.2.2.1;simp only [Int.ofNat_eq_natCast] at this;omega
 have hL:=Bd [(0,Lk n f),(2,FK n f)];have h0:=λL j=>Tj L n f hn n 0 j (n+1) (by omega) (by omega);have h2:=λL j=>XK L n f hn n j (n+1) (Nat.le_refl _) (by omega) (λk h1 h2=>by omega);rw [Tq] at h0;rw [<- OF (Nat.le_refl n) hn] at h2;cases hs:ilt 0 (ofNat (Ai (λk=>Ay (f k)) n)) with
 | true=>exact Bb (Bc (Bc hL hL) hL) _ (Adw _ _ _ n f _ 0 n (CC (λk=>Ay (f k)) n) (A1 (λk=>Ay (f k)) n) hm hs (A5 (h0 _ _)) (A5 (h2 _ _)))
 | false =>rw [<- Py (λk=>Ay (f k)) n (by simpa [ilt] using hs)];exact Bb (Bc hL hL) _ (Adv _ _ n f _ n _ hm hs (A5 (h0 _ _)))
theorem ZU (n:Nat) (f:Nat->E6) (hm:Eu 8 (ofNat n) (ofNat n)=true) :
  (A7 (An tab (Br Gl tbY [(0,Ll n f),(2,FL n f)]) Tryz.f175 [A9 n f,.fn 172 []] [])).sem=some (.ref 0,[.row 3 1 n λk=>iV (A1 (λk=>A4 (f k)) n k)]):=by
 have hn:n <= 4611686018427387904:=by
  simp only [Eu,Bool.and_eq_true,decide_eq_true_eq] at hm;have:=hm.2.2.1;simp only [Int.ofNat_eq_natCast] at this;omega
 have hL:=Bd [(0,Ll n f),(2,FL n f)];have h0:=λL j=>Tk L n f hn n 0 j (n+1) (by omega) (by omega);have h2:=λL j=>XL L n f hn n j (n+1) (Nat.le_refl _) (by omega) (λk h1 h2=>by omega);rw [Tq] at h0;rw [<- OF (Nat.le_refl n) hn] at h2;cases hs:ilt 0 (ofNat (Ai (λk=>A4 (f k)) n)) with
 | true=>exact Bb (Bc (Bc hL hL) hL) _ (Ady _ _ _ n f _ 0 n (CC (λk=>A4 (f k)) n) (A1 (λk=>A4 (f k)) n) hm hs (A5 (h0 _ _)) (A5 (h2 _ _)))
 | false =>rw [<- Py (λk=>A4 (f k)) n (by simpa [ilt] using hs)];exact Bb (Bc hL hL) _ (Adx _ _ n f _ n _ hm hs (A5 (h0 _ _)))
theorem p92:As Tryz.prog Gl 175 Tt:=by
 refine Am AA mixed Tryz.func175 (by kernel_rfl) (by kernel_rfl) λvs v h' h=>?_;unfold Tt at h;split at h
 ·rename_i u g
  obtain ⟨n,f,ha,h1⟩:=Ce h;obtain ⟨hm,hq⟩:=Ab h1;clear h h1;have hA:BK [u,.fn g []] [A9 n f,.fn g []]:=λS w cs hv=>by
   obtain ⟨c,l,rfl,q1,q2⟩:=hv;exact ⟨c,l,rfl,ha S w c q1,q2⟩
  split at hq
  ·rename_i h1
   have h1:=Nat.eq_of_beq_eq_true h1;subst h1;have:=Aa hq;simp only [Prod.mk.injEq] at this;obtain ⟨rfl,rfl⟩:=this;have hx:=Bh Mf [(0,Lk n f),(2,FK n f)];exact ⟨_,Br Gl tbY [(0,Lk n f),(2,FK n f)],_,hA,rfl,hx.1,hx.2,ZT n f hm,Aw.refl _⟩
  ·rename_i h1
   have h1:=Nat.eq_of_beq_eq_true h1;subst h1;have:=Aa hq;simp only [Prod.mk.injEq] at this;obtain ⟨rfl,rfl⟩:=this;have hx:=Bh Mf [(0,Ll n f),(2,FL n f)];exact ⟨_,Br Gl tbY [(0,Ll n f),(2,FL n f)],_,hA,rfl,hx.1,hx.2,ZU n f hm,Aw.refl _⟩
  ·cases hq
 ·cases h
end Go.Proofs.YtkbafjceglhjhaaGreatDoor.Ed
namespace Go.Proofs.YtkbafjceglhjhaaGreatDoor.Ed
open Go.Sy
end Go.Proofs.YtkbafjceglhjhaaGreatDoor.Ed
namespace Go.Proofs.YtkbafjceglhjhaaGreatDoor.Ed
open Go.Sy
def okI (v:V):Bool:=match gI v with
 | some _=>true
 | none=>false
def edI (v:V):Int:=match gI v with
 | some e=>e
 | none=>0
theorem M4 {v:V} (h:okI v=true):v=iV (edI v):=by
 unfold okI at h;unfold edI;split at h
 ·rename_i e he
  exact FO he
 ·cases h
def EE (n:Nat) (f:Nat->Int):V:=.sl 1 n λi=>iV (f i)
def W7:V->Option (Nat×(Nat->V))
 | .sl s n g=>match Nat.beq s 1 with
  | true=>some (n,g)
  | false=>none
 | _=>none
def apI {α:Type} (v:V) (F:Nat->(Nat->Int)->T α):T α :=
 match W7 v with
 | some (n,g)=>.br (Ba n λi=>okI (g i)) (F n λi=>edI (g i)) .fail
 | none=>.fail
theorem F6 {α:Type} {v:V} {F:Nat->(Nat->Int)->T α} {r:α} (h:(apI v F).sem=some r) :
  ∃ n f,(∀ (S:Nat->Prop) (w:World) (c:Value),VR S w v noK c->VR S w (EE n f) noK c)∧(F n f).sem=some r:=by
 unfold apI at h;split at h
 ·rename_i n g hg
  obtain ⟨h1,h2⟩:=Ab h;have h1:=AG.1 h1;refine ⟨n,_,λS w c hv=>?_,h2⟩;unfold W7 at hg;split at hg
  ·rename_i s n' g'
   split at hg
   ·rename_i hs
    simp only [Option.some.injEq,Prod.mk.injEq] at hg;obtain ⟨rfl,rfl⟩:=hg;have hs:s=1:=Nat.eq_of_beq_eq_true hs;subst hs;obtain ⟨a,cap,e,hc,hb⟩:=hv;refine ⟨a,cap,e,hc,hb.imp id ?_⟩
    rintro ⟨b,o,ea,hel⟩
    refine ⟨b,o,ea,λi hi=>?_⟩;have:=hel i hi;rw [M4 (h1 i hi)] at this;exact this
   ·cases hg
  ·cases hg
 ·cases h
def apI2 (F:Nat->(Nat->Int)->Nat->(Nat->Int)->AB):List V->AB
 | [v,u]=>apI v λn f=>apI u λm g=>F n f m g
 | _=>.fail
def AbQ (F:Nat->(Nat->Int)->AB):List V->AB
 | [v]=>apI v F
 | _=>.fail
theorem OU {F:Nat->(Nat->Int)->AB} {vs:List V} {r:V×List Blk} (h:(AbQ F vs).sem=some r):∃ n f,BK vs [EE n f]∧(F n f).sem=some r:=by
 unfold AbQ at h;split at h
 ·obtain ⟨n,f,h1,h2⟩:=F6 h
  refine ⟨n,f,λS w cs hv=>?_,h2⟩;obtain ⟨c,l,rfl,q1,q2⟩:=hv;exact ⟨c,l,rfl,h1 S w c q1,q2⟩
 ·cases h
def okB (v:V):Bool:=match gB v with
 | some _=>true
 | none=>false
def edB (v:V):Bool:=match gB v with
 | some e=>e
 | none=>false
theorem Ym {v:V} (h:okB v=true):v=bV (edB v):=by
 unfold okB at h;unfold edB;split at h
 ·rename_i e he
  exact PV he
 ·cases h
def Ut (n:Nat) (f:Nat->Bool):V:=.sl 1 n λi=>bV (f i)
def apB {α:Type} (v:V) (F:Nat->(Nat->Bool)->T α):T α :=
 match W7 v with
 | some (n,g)=>.br (Ba n λi=>okB (g i)) (F n λi=>edB (g i)) .fail
 | none=>.fail
theorem ZB {α:Type} {v:V} {F:Nat->(Nat->Bool)->T α} {r:α} (h:(apB v F).sem=some r) :
  ∃ n f,(∀ (S:Nat->Prop) (w:World) (c:Value),VR S w v noK c->VR S w (Ut n f) noK c)∧(F n f).sem=some r:=by
 unfold apB at h;split at h
 ·rename_i n g hg
  obtain ⟨h1,h2⟩:=Ab h;have h1:=AG.1 h1;refine ⟨n,_,λS w c hv=>?_,h2⟩;unfold W7 at hg;split at hg
  ·rename_i s n' g'
   split at hg
   ·rename_i hs
    simp only [Option.some.injEq,Prod.mk.injEq] at hg;obtain ⟨rfl,rfl⟩:=hg;have hs:s=1:=Nat.eq_of_beq_eq_true hs;subst hs;obtain ⟨a,cap,e,hc,hb⟩:=hv;refine ⟨a,cap,e,hc,hb.imp id ?_⟩
    rintro ⟨b,o,ea,hel⟩
    refine ⟨b,o,ea,λi hi=>?_⟩;have:=hel i hi;rw [Ym (h1 i hi)] at this;exact this
   ·cases hg
  ·cases hg
 ·cases h
end Go.Proofs.YtkbafjceglhjhaaGreatDoor.Ed
