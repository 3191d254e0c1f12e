/-
  Layer 4: the parts of a cycle. No conditions.
-/
import Derived.Test.YtjhnfomefcngfaaCyB
import Derived.Test.YtjhnfomefcngfaaSyS
namespace Go.Proofs.Ytjhnfomefcngfaa.Ed
open Go.Sy
open Int (ofNat)
def CL (p:Nat->Bool) (i k:Nat):Int:=bif decide (k < i) then ofNat (Ak p k) else 0
def A0 (p:Nat->Bool) (n k:Nat):Int:=bif decide (k < n) then (bif decide (Ak p k = Ak p n) then 0 else ofNat (Ak p k)) else 0
def MD (h:Nat->Int) (i:Nat) (s:Int) (k:Nat):Int:=bif decide (k = i) then s else h k
theorem Co (h:Nat->Int) (i:Nat) (s:Int):Bs (fun k=>iV (h k)) i (iV s) = fun k=>iV (MD h i s k):=by
  funext k
  rw [GA,show Nat.beq k i = decide (k = i) by rw [Bool.eq_iff_iff]; simp]
  unfold MD
  cases decide (k = i) <;> rfl
theorem JU (p:Nat->Bool) (i:Nat):MD (CL p i) i (ofNat (Ak p i)) = CL p (i+1):=by
  funext k
  unfold MD CL
  by_cases h:k = i
  · subst h; simp
  · by_cases h2:k < i
    · have:k < i+1:=by omega
      simp [h,h2,this]
    · have:¬ k < i+1:=by omega
      simp [h,h2,this]
theorem KI (p:Nat->Bool) (i:Nat):MD (CL p (i+1)) i 0 = CL p i:=by
  funext k
  unfold MD CL
  by_cases h:k = i
  · subst h; simp
  · by_cases h2:k < i
    · have:k < i+1:=by omega
      simp [h,h2,this]
    · have:¬ k < i+1:=by omega
      simp [h,h2,this]
def dn:Nat->Int
  | 0=>-1
  | D+1=>ofNat D
theorem Py {D n:Nat} (h:D <= n) (hn:n <= 4611686018427387904):wr .i64 (AF (ofNat D) 1) = dn D:=by
  cases D with
  | zero=>rfl
  | succ D =>
    unfold wr AF IntKind.wrap dn
    simp [IntKind.bits,IntKind.signed]
    omega
theorem Bb (p:Nat->Bool):∀ {i k:Nat},i <= k->Ak p i <= Ak p k
  | i,0,h=>by
    have:i = 0:=by omega
    subst this
    exact Nat.le_refl _
  | i,k+1,h=>by
    by_cases h2:i = k+1
    · subst h2; exact Nat.le_refl _
    · have:=Bb p (show i <= k by omega)
      refine Nat.le_trans this ?_
      rw [show Ak p (k+1) = (match p k with | true=>Ak p k+1 | false=>Ak p k) from rfl]
      cases p k
      · exact Nat.le_refl _
      · exact Nat.le_succ _
theorem Hn (p:Nat->Bool) (n D:Nat) (h:D <= n) (h1:∀ k,k < D->Ak p k ≠ Ak p n) (h2:∀ k,D <= k->k < n->Ak p k = Ak p n):CL p D = A0 p n:=by
  funext k
  unfold CL A0
  by_cases h3:k < D
  · have h4:k < n:=by omega
    simp [h3,h4,h1 k h3]
  · by_cases h4:k < n
    · simp [h3,h4,h2 k (by omega) h4]
    · simp [h3,h4]
def LU (n:Nat) (f:Nat->E6):Lp:=⟨(bmK 51 0 [0,1,5,6,13,14,15]),2,bmK 51 0 [0,5,6],2,n+1⟩
def LI (n:Nat) (f:Nat->E6) (s:Int) (i:Nat) (h:Nat->Int) (j:Nat->V):St:=⟨(jsV 51 0 j [(0,.sl 6 n (fun i=>eV (f i))),(1,.fn 83 []),(5,.ref 1),(6,iV s),(13,.sl 6 n (fun i=>eV (f i))),(14,nV n),(15,nV i)]),[.row 3 1 0 (fun _=>.und),.row 3 1 n (fun k=>iV (h k))]⟩
def H6 (n:Nat) (f:Nat->E6) (s:Int) (i:Nat) (h:Nat->Int):Ex × St:=(.ex 0,⟨(jsV 51 0 (fun _=>.und) [(0,.sl 6 n (fun i=>eV (f i))),(5,.ref 1),(6,iV s)]),[.row 3 1 0 (fun _=>.und),.row 3 1 n (fun k=>iV (h k))]⟩)
noncomputable def Gk (L:LT):St->T (Ex × St):=fun st=>AE tab ⟨Ao tbY,L,Gl⟩ (Az Try.f87 0) 0 st
section
variable (L:LT) (n:Nat) (f:Nat->E6) (s:Int) (i:Nat) (h:Nat->Int)  (j:Nat->V)
include L n f s i h j
abbrev r3Z:Blk:=.row 3 1 0 fun _=>.und
theorem AeN (h0:ilt (ofNat i) (ofNat n) = false):Al (Gk L) (LU n f) (LI n f s i h j) = some ((.ex 0),⟨(jsV 51 0 (fun _=>.und) [(0,(.sl 6 n (fun i=>eV (f i)))),(5,(.ref 1)),(6,(iV s))]),[r3Z,.row 3 1 n (fun k=>iV (h k))]⟩):=Aa [false] [ilt (ofNat i) (ofNat n)] (by kernel_rfl) (by simp only [h0] <;> rfl)
theorem AeL (h0:ilt (ofNat i) (ofNat n) = true) (h1:Ag (ile 0 (ofNat i)) (ilt (ofNat i) (ofNat n)) = true) (h2:nlt i n = true) (h3:Ay (f i) = true):Al (Gk L) (LU n f) (LI n f s i h j) = some (.nm,⟨(jsV 51 0 (fun _=>.und) [(0,(.sl 6 n (fun i=>eV (f i)))),(1,(.fn 83 [])),(5,(.ref 1)),(6,(iV (wr .i64 (Af s 1)))),(13,(.sl 6 n (fun i=>eV (f i)))),(14,(nV n)),(15,(iV (wr .i64 (Af (ofNat i) 1))))]),[r3Z,.row 3 1 n (Bs (fun k=>iV (h k)) i (iV s))]⟩):=Aa [true,true,true,true,true] ((fun c0=>[ilt (ofNat i) (ofNat n),c0,c0,nlt i n,Ay (f i)]) (Ag (ile 0 (ofNat i)) (ilt (ofNat i) (ofNat n)))) (by kernel_rfl) (by simp only [h1] <;> simp only [*] <;> rfl)
theorem AeM (h0:ilt (ofNat i) (ofNat n) = true) (h1:Ag (ile 0 (ofNat i)) (ilt (ofNat i) (ofNat n)) = true) (h2:nlt i n = true) (h3:Ay (f i) = false):Al (Gk L) (LU n f) (LI n f s i h j) = some (.nm,⟨(jsV 51 0 (fun _=>.und) [(0,(.sl 6 n (fun i=>eV (f i)))),(1,(.fn 83 [])),(5,(.ref 1)),(6,(iV s)),(13,(.sl 6 n (fun i=>eV (f i)))),(14,(nV n)),(15,(iV (wr .i64 (Af (ofNat i) 1))))]),[r3Z,.row 3 1 n (Bs (fun k=>iV (h k)) i (iV s))]⟩):=Aa [true,true,true,true,false] ((fun c0=>[ilt (ofNat i) (ofNat n),c0,c0,nlt i n,Ay (f i)]) (Ag (ile 0 (ofNat i)) (ilt (ofNat i) (ofNat n)))) (by kernel_rfl) (by simp only [h1] <;> simp only [*] <;> rfl)
end
def Vb (n:Nat) (f:Nat->E6) :Nat->V:=lkV A8 [(4,(.ref 0)),(10,(.sl 6 n (fun i=>eV (f i)))),(11,(nV n)),(12,(.ref 1))]
def FW (n:Nat) (f:Nat->E6):Lp:=⟨(bmK 51 0 [5,6,9]),2,bmK 51 0 [5],2,n+1⟩
def IF (n:Nat) (f:Nat->E6) (s d:Int) (h:Nat->Int) (j:Nat->V):St:=⟨(jsV 51 0 j [(5,.ref 1),(6,iV s),(9,iV d)]),[.row 3 1 0 (fun _=>.und),.row 3 1 n (fun k=>iV (h k))]⟩
def GM (n:Nat) (f:Nat->E6) (s d:Int) (h:Nat->Int):Ex × St:=(.ex 2,⟨(jsV 51 0 (fun _=>.und) [(5,.ref 1)]),[.row 3 1 0 (fun _=>.und),.row 3 1 n (fun k=>iV (h k))]⟩)
noncomputable def Ft (L:LT):St->T (Ex × St):=fun st=>AE tab ⟨Ao tbY,L,Gl⟩ (Az Try.f87 2) 2 st
section
variable (L:LT) (n:Nat) (f:Nat->E6) (s d:Int) (h:Nat->Int)  (j:Nat->V)
include L n f s d h j
theorem Aez (h0:ile 0 d = false):Al (Ft L) (FW n f) (IF n f s d h j) = some ((.ex 2),⟨(jsV 51 0 (fun _=>.und) [(5,(.ref 1))]),[r3Z,.row 3 1 n (fun k=>iV (h k))]⟩):=Aa (bbK 8 0) [ile 0 d,ile 0 d,ile 0 d,ile 0 d,ile 0 d,ile 0 d,ile 0 d,false] (by kernel_rfl) (by simp only [h0] <;> rfl)
theorem Aey (h0:ile 0 d = true) (h1:Ag (ile 0 d) (ilt d (ofNat n)) = true) (h2:nlt (toN d) n = true) (h3:ieq (h (toN d)) s = false):Al (Ft L) (FW n f) (IF n f s d h j) = some ((.ex 2),⟨(jsV 51 0 (fun _=>.und) [(5,(.ref 1))]),[r3Z,.row 3 1 n (fun k=>iV (h k))]⟩):=Aa (bbK 10 511) [ile 0 d,ile 0 d,ile 0 d,Ag (ile 0 d) (ilt d (ofNat n)),ile 0 d,nlt (toN d) n,ile 0 d,ile 0 d,ile 0 d,ieq (h (toN d)) s] (by kernel_rfl) (by simp only [h1] <;> simp only [*] <;> rfl)
theorem Aex (h0:ile 0 d = true) (h1:Ag (ile 0 d) (ilt d (ofNat n)) = true) (h2:nlt (toN d) n = true) (h3:ieq (h (toN d)) s = true):Al (Ft L) (FW n f) (IF n f s d h j) = some (.nm,⟨(jsV 51 0 (fun _=>.und) [(5,(.ref 1)),(6,(iV s)),(9,(iV (wr .i64 (AF d 1))))]),[r3Z,.row 3 1 n (Bs (fun k=>iV (h k)) (toN d) (iV 0))]⟩):=Aa (bbK 12 4095) ((fun c0 c1 c2=>[c0,c0,c0,c1,c0,c2,c0,c0,c0,ieq (h (toN d)) s,c1,c2]) (ile 0 d) (Ag (ile 0 d) (ilt d (ofNat n))) (nlt (toN d) n)) (by kernel_rfl) (by simp only [h1] <;> simp only [*] <;> rfl)
end
def Vd (n:Nat) (f:Nat->E6) (s:Int) (i:Nat) (h:Nat->Int):Nat->V:=lkV A8 [(0,(.sl 6 n (fun i=>eV (f i)))),(1,.und),(2,.und),(3,.und),(4,.und),(7,.und),(8,.und),(10,.und),(11,.und),(12,.und),(13,.und),(14,.und),(15,.und),(16,.und),(17,.und),(18,.und),(19,.und),(20,.und),(21,.und),(22,.und),(23,.und),(24,.und),(25,.und),(26,.und),(27,.und),(28,.und),(29,.und),(30,(iV s)),(31,(bV (ilt 0 s))),(32,(.sl 6 n (fun i=>eV (f i)))),(33,(nV n)),(34,(iV (wr .i64 (AF (ofNat n) 1)))),(35,.und),(36,.und),(37,.und),(38,.und),(39,.und),(40,.und),(41,.und),(42,.und),(43,.und),(44,.und),(45,.und),(46,.und),(47,.und),(48,.und),(49,.und),(50,.und)]
theorem Ac7 (L:LT) (p0:PT) (n:Nat) (f:Nat->E6) (s:Int) (i:Nat) (h:Nat->Int) (h0:BO 8 (ofNat n) (ofNat n) = true) (h1:ilt 0 s = false) (hp0:p0 (Gk (onP 0 p0 (H6 n f s i h) L)) (LI n f 0 0 (fun _=>0) (Vb n f )) = true):(As (Aj tab ⟨Ao tbY,onP 0 p0 (H6 n f s i h) L,Gl⟩ Try.f87 [A2 n f,.fn 83 []] [])).sem = some ((.ref 0),[.row 3 1 n (fun k=>iV (h k))]):=Aa [true,true,false] [BO 8 (ofNat n) (ofNat n),p0 (Gk (onP 0 p0 (H6 n f s i h) L)) (LI n f 0 0 (fun _=>0) (Vb n f )),ilt 0 s] (by kernel_rfl) (by simp only [h0,h1,hp0] <;> rfl)
theorem Ac8 (L:LT) (p0:PT) (p2:PT) (n:Nat) (f:Nat->E6) (s d:Int) (i:Nat) (h g:Nat->Int) (h0:BO 8 (ofNat n) (ofNat n) = true) (h1:ilt 0 s = true) (hp0:p0 (Gk (onP 0 p0 (H6 n f s i h) (onP 2 p2 (GM n f s d g) L))) (LI n f 0 0 (fun _=>0) (Vb n f )) = true) (hp2:p2 (Ft (onP 0 p0 (H6 n f s i h) (onP 2 p2 (GM n f s d g) L))) (IF n f s (wr .i64 (AF (ofNat n) 1)) h (Vd n f s i h)) = true):(As (Aj tab ⟨Ao tbY,onP 0 p0 (H6 n f s i h) (onP 2 p2 (GM n f s d g) L),Gl⟩ Try.f87 [A2 n f,.fn 83 []] [])).sem = some ((.ref 0),[.row 3 1 n (fun k=>iV (g k))]):=Aa [true,true,true,true] [BO 8 (ofNat n) (ofNat n),p0 (Gk (onP 0 p0 (H6 n f s i h) (onP 2 p2 (GM n f s d g) L))) (LI n f 0 0 (fun _=>0) (Vb n f )),ilt 0 s,p2 (Ft (onP 0 p0 (H6 n f s i h) (onP 2 p2 (GM n f s d g) L))) (IF n f s (wr .i64 (AF (ofNat n) 1)) h (Vd n f s i h))] (by kernel_rfl) (by simp only [h0,h1,hp0,hp2] <;> rfl)
def LV (n:Nat) (f:Nat->E6):Lp:=⟨(bmK 51 0 [0,1,5,6,13,14,15]),2,bmK 51 0 [0,5,6],2,n+1⟩
def LJ (n:Nat) (f:Nat->E6) (s:Int) (i:Nat) (h:Nat->Int) (j:Nat->V):St:=⟨(jsV 51 0 j [(0,.sl 6 n (fun i=>eV (f i))),(1,.fn 84 []),(5,.ref 1),(6,iV s),(13,.sl 6 n (fun i=>eV (f i))),(14,nV n),(15,nV i)]),[.row 3 1 0 (fun _=>.und),.row 3 1 n (fun k=>iV (h k))]⟩
def H7 (n:Nat) (f:Nat->E6) (s:Int) (i:Nat) (h:Nat->Int):Ex × St:=(.ex 0,⟨(jsV 51 0 (fun _=>.und) [(0,.sl 6 n (fun i=>eV (f i))),(5,.ref 1),(6,iV s)]),[.row 3 1 0 (fun _=>.und),.row 3 1 n (fun k=>iV (h k))]⟩)
noncomputable def Gm (L:LT):St->T (Ex × St):=fun st=>AE tab ⟨Ao tbY,L,Gl⟩ (Az Try.f87 0) 0 st
section
variable (L:LT) (n:Nat) (f:Nat->E6) (s:Int) (i:Nat) (h:Nat->Int)  (j:Nat->V)
include L n f s i h j
theorem AeQ (h0:ilt (ofNat i) (ofNat n) = false):Al (Gm L) (LV n f) (LJ n f s i h j) = some ((.ex 0),⟨(jsV 51 0 (fun _=>.und) [(0,(.sl 6 n (fun i=>eV (f i)))),(5,(.ref 1)),(6,(iV s))]),[r3Z,.row 3 1 n (fun k=>iV (h k))]⟩):=Aa [false] [ilt (ofNat i) (ofNat n)] (by kernel_rfl) (by simp only [h0] <;> rfl)
theorem AeO (h0:ilt (ofNat i) (ofNat n) = true) (h1:Ag (ile 0 (ofNat i)) (ilt (ofNat i) (ofNat n)) = true) (h2:nlt i n = true) (h3:Au (f i) = true):Al (Gm L) (LV n f) (LJ n f s i h j) = some (.nm,⟨(jsV 51 0 (fun _=>.und) [(0,(.sl 6 n (fun i=>eV (f i)))),(1,(.fn 84 [])),(5,(.ref 1)),(6,(iV (wr .i64 (Af s 1)))),(13,(.sl 6 n (fun i=>eV (f i)))),(14,(nV n)),(15,(iV (wr .i64 (Af (ofNat i) 1))))]),[r3Z,.row 3 1 n (Bs (fun k=>iV (h k)) i (iV s))]⟩):=Aa [true,true,true,true,true] ((fun c0=>[ilt (ofNat i) (ofNat n),c0,c0,nlt i n,Au (f i)]) (Ag (ile 0 (ofNat i)) (ilt (ofNat i) (ofNat n)))) (by kernel_rfl) (by simp only [h1] <;> simp only [*] <;> rfl)
theorem AeP (h0:ilt (ofNat i) (ofNat n) = true) (h1:Ag (ile 0 (ofNat i)) (ilt (ofNat i) (ofNat n)) = true) (h2:nlt i n = true) (h3:Au (f i) = false):Al (Gm L) (LV n f) (LJ n f s i h j) = some (.nm,⟨(jsV 51 0 (fun _=>.und) [(0,(.sl 6 n (fun i=>eV (f i)))),(1,(.fn 84 [])),(5,(.ref 1)),(6,(iV s)),(13,(.sl 6 n (fun i=>eV (f i)))),(14,(nV n)),(15,(iV (wr .i64 (Af (ofNat i) 1))))]),[r3Z,.row 3 1 n (Bs (fun k=>iV (h k)) i (iV s))]⟩):=Aa [true,true,true,true,false] ((fun c0=>[ilt (ofNat i) (ofNat n),c0,c0,nlt i n,Au (f i)]) (Ag (ile 0 (ofNat i)) (ilt (ofNat i) (ofNat n)))) (by kernel_rfl) (by simp only [h1] <;> simp only [*] <;> rfl)
end
def Vc (n:Nat) (f:Nat->E6) :Nat->V:=lkV A8 [(4,(.ref 0)),(10,(.sl 6 n (fun i=>eV (f i)))),(11,(nV n)),(12,(.ref 1))]
def FX (n:Nat) (f:Nat->E6):Lp:=⟨(bmK 51 0 [5,6,9]),2,bmK 51 0 [5],2,n+1⟩
def IG (n:Nat) (f:Nat->E6) (s d:Int) (h:Nat->Int) (j:Nat->V):St:=⟨(jsV 51 0 j [(5,.ref 1),(6,iV s),(9,iV d)]),[.row 3 1 0 (fun _=>.und),.row 3 1 n (fun k=>iV (h k))]⟩
def GN (n:Nat) (f:Nat->E6) (s d:Int) (h:Nat->Int):Ex × St:=(.ex 2,⟨(jsV 51 0 (fun _=>.und) [(5,.ref 1)]),[.row 3 1 0 (fun _=>.und),.row 3 1 n (fun k=>iV (h k))]⟩)
noncomputable def Fu (L:LT):St->T (Ex × St):=fun st=>AE tab ⟨Ao tbY,L,Gl⟩ (Az Try.f87 2) 2 st
section
variable (L:LT) (n:Nat) (f:Nat->E6) (s d:Int) (h:Nat->Int)  (j:Nat->V)
include L n f s d h j
theorem Ae2 (h0:ile 0 d = false):Al (Fu L) (FX n f) (IG n f s d h j) = some ((.ex 2),⟨(jsV 51 0 (fun _=>.und) [(5,(.ref 1))]),[r3Z,.row 3 1 n (fun k=>iV (h k))]⟩):=Aa (bbK 8 0) [ile 0 d,ile 0 d,ile 0 d,ile 0 d,ile 0 d,ile 0 d,ile 0 d,false] (by kernel_rfl) (by simp only [h0] <;> rfl)
theorem Ae1 (h0:ile 0 d = true) (h1:Ag (ile 0 d) (ilt d (ofNat n)) = true) (h2:nlt (toN d) n = true) (h3:ieq (h (toN d)) s = false):Al (Fu L) (FX n f) (IG n f s d h j) = some ((.ex 2),⟨(jsV 51 0 (fun _=>.und) [(5,(.ref 1))]),[r3Z,.row 3 1 n (fun k=>iV (h k))]⟩):=Aa (bbK 10 511) [ile 0 d,ile 0 d,ile 0 d,Ag (ile 0 d) (ilt d (ofNat n)),ile 0 d,nlt (toN d) n,ile 0 d,ile 0 d,ile 0 d,ieq (h (toN d)) s] (by kernel_rfl) (by simp only [h1] <;> simp only [*] <;> rfl)
theorem Ae0 (h0:ile 0 d = true) (h1:Ag (ile 0 d) (ilt d (ofNat n)) = true) (h2:nlt (toN d) n = true) (h3:ieq (h (toN d)) s = true):Al (Fu L) (FX n f) (IG n f s d h j) = some (.nm,⟨(jsV 51 0 (fun _=>.und) [(5,(.ref 1)),(6,(iV s)),(9,(iV (wr .i64 (AF d 1))))]),[r3Z,.row 3 1 n (Bs (fun k=>iV (h k)) (toN d) (iV 0))]⟩):=Aa (bbK 12 4095) ((fun c0 c1 c2=>[c0,c0,c0,c1,c0,c2,c0,c0,c0,ieq (h (toN d)) s,c1,c2]) (ile 0 d) (Ag (ile 0 d) (ilt d (ofNat n))) (nlt (toN d) n)) (by kernel_rfl) (by simp only [h1] <;> simp only [*] <;> rfl)
end
def Ve (n:Nat) (f:Nat->E6) (s:Int) (i:Nat) (h:Nat->Int):Nat->V:=lkV A8 [(0,(.sl 6 n (fun i=>eV (f i)))),(1,.und),(2,.und),(3,.und),(4,.und),(7,.und),(8,.und),(10,.und),(11,.und),(12,.und),(13,.und),(14,.und),(15,.und),(16,.und),(17,.und),(18,.und),(19,.und),(20,.und),(21,.und),(22,.und),(23,.und),(24,.und),(25,.und),(26,.und),(27,.und),(28,.und),(29,.und),(30,(iV s)),(31,(bV (ilt 0 s))),(32,(.sl 6 n (fun i=>eV (f i)))),(33,(nV n)),(34,(iV (wr .i64 (AF (ofNat n) 1)))),(35,.und),(36,.und),(37,.und),(38,.und),(39,.und),(40,.und),(41,.und),(42,.und),(43,.und),(44,.und),(45,.und),(46,.und),(47,.und),(48,.und),(49,.und),(50,.und)]
theorem Ac9 (L:LT) (p0:PT) (n:Nat) (f:Nat->E6) (s:Int) (i:Nat) (h:Nat->Int) (h0:BO 8 (ofNat n) (ofNat n) = true) (h1:ilt 0 s = false) (hp0:p0 (Gm (onP 0 p0 (H7 n f s i h) L)) (LJ n f 0 0 (fun _=>0) (Vc n f )) = true):(As (Aj tab ⟨Ao tbY,onP 0 p0 (H7 n f s i h) L,Gl⟩ Try.f87 [A2 n f,.fn 84 []] [])).sem = some ((.ref 0),[.row 3 1 n (fun k=>iV (h k))]):=Aa [true,true,false] [BO 8 (ofNat n) (ofNat n),p0 (Gm (onP 0 p0 (H7 n f s i h) L)) (LJ n f 0 0 (fun _=>0) (Vc n f )),ilt 0 s] (by kernel_rfl) (by simp only [h0,h1,hp0] <;> rfl)
theorem AcA (L:LT) (p0:PT) (p2:PT) (n:Nat) (f:Nat->E6) (s d:Int) (i:Nat) (h g:Nat->Int) (h0:BO 8 (ofNat n) (ofNat n) = true) (h1:ilt 0 s = true) (hp0:p0 (Gm (onP 0 p0 (H7 n f s i h) (onP 2 p2 (GN n f s d g) L))) (LJ n f 0 0 (fun _=>0) (Vc n f )) = true) (hp2:p2 (Fu (onP 0 p0 (H7 n f s i h) (onP 2 p2 (GN n f s d g) L))) (IG n f s (wr .i64 (AF (ofNat n) 1)) h (Ve n f s i h)) = true):(As (Aj tab ⟨Ao tbY,onP 0 p0 (H7 n f s i h) (onP 2 p2 (GN n f s d g) L),Gl⟩ Try.f87 [A2 n f,.fn 84 []] [])).sem = some ((.ref 0),[.row 3 1 n (fun k=>iV (g k))]):=Aa [true,true,true,true] [BO 8 (ofNat n) (ofNat n),p0 (Gm (onP 0 p0 (H7 n f s i h) (onP 2 p2 (GN n f s d g) L))) (LJ n f 0 0 (fun _=>0) (Vc n f )),ilt 0 s,p2 (Fu (onP 0 p0 (H7 n f s i h) (onP 2 p2 (GN n f s d g) L))) (IG n f s (wr .i64 (AF (ofNat n) 1)) h (Ve n f s i h))] (by kernel_rfl) (by simp only [h0,h1,hp0,hp2] <;> rfl)
theorem T0 (L:LT) (n:Nat) (f:Nat->E6) (hn:n <= 4611686018427387904):∀ (e i:Nat) (j:Nat->V) (q:Nat),n = i+e->e < q ->
    (A7 (Gk L) (LU n f) q (LI n f (ofNat (Ak (fun k=>Ay (f k)) i)) i (CL (fun k=>Ay (f k)) i) j)).sem = some (H6 n f (ofNat (Ak (fun k=>Ay (f k)) n)) n (CL (fun k=>Ay (f k)) n))
  | 0,i,j,q+1,h,_=>by
    have:n = i:=by omega
    subst this
    exact Ac (AeN L n f _ _ _ j (AA (Nat.le_refl _)))
  | e+1,i,j,q+1,h,h2=>by
    have hc:=Be (fun k=>Ay (f k)) i
    have hl:ilt (ofNat i) (ofNat n) = true:=ofNat_lt (by omega)
    have hb:Ag (ile 0 (ofNat i)) (ilt (ofNat i) (ofNat n)) = true:=by rw [AH,hl]; rfl
    have hk:nlt i n = true:=by simpa [nlt] using (show i < n by omega)
    cases hp:Ay (f i) with
    | true =>
      rw [Ac (AeL L n f _ i _ j hl hb hk hp),Av,Aq (show i < n by omega) hn,Aq (show Ak (fun k=>Ay (f k)) i < n by omega) hn,
        show Ak (fun k=>Ay (f k)) i+1 = Ak (fun k=>Ay (f k)) (i+1) by rw [Ak,hp],Co,JU]
      exact T0 L n f hn e (i+1) (fun _=>.und) q (by omega) (by omega)
    | false =>
      rw [Ac (AeM L n f _ i _ j hl hb hk hp),Av,Aq (show i < n by omega) hn,Co,JU,
        show Ak (fun k=>Ay (f k)) i = Ak (fun k=>Ay (f k)) (i+1) by rw [Ak,hp]]
      exact T0 L n f hn e (i+1) (fun _=>.und) q (by omega) (by omega)
theorem XA (L:LT) (n:Nat) (f:Nat->E6) (hn:n <= 4611686018427387904):∀ (D:Nat) (j:Nat->V) (q:Nat),D <= n->D < q->(∀ k,D <= k->k < n->Ak (fun k=>Ay (f k)) k = Ak (fun k=>Ay (f k)) n) ->
    (A7 (Ft L) (FW n f) q (IF n f (ofNat (Ak (fun k=>Ay (f k)) n)) (dn D) (CL (fun k=>Ay (f k)) D) j)).sem = some (GM n f 0 0 (A0 (fun k=>Ay (f k)) n))
  | 0,j,q+1,h,_,hb=>by
    rw [<- Hn (fun k=>Ay (f k)) n 0 h (fun k hk=>absurd hk (Nat.not_lt_zero _)) hb]
    exact Ac (Aez L n f _ _ _ j rfl)
  | D+1,j,q+1,h,h2,hb=>by
    have hl:ilt (ofNat D) (ofNat n) = true:=ofNat_lt (by omega)
    have hb1:Ag (ile 0 (ofNat D)) (ilt (ofNat D) (ofNat n)) = true:=by rw [AH,hl]; rfl
    have hk:nlt D n = true:=by simpa [nlt] using (show D < n by omega)
    have hr:CL (fun k=>Ay (f k)) (D+1) D = ofNat (Ak (fun k=>Ay (f k)) D):=by simp [CL]
    cases hp:ieq (CL (fun k=>Ay (f k)) (D+1) D) (ofNat (Ak (fun k=>Ay (f k)) n)) with
    | true =>
      have he:Ak (fun k=>Ay (f k)) D = Ak (fun k=>Ay (f k)) n:=by
        rw [hr] at hp
        have h7:((Ak (fun k=>Ay (f k)) D:Nat):Int) = ((Ak (fun k=>Ay (f k)) n:Nat):Int):=by simpa [ieq] using hp
        omega
      rw [show dn (D+1) = ofNat D from rfl,Ac (Aex L n f _ _ _ j (AH D) hb1 hk hp),Av,Py (show D <= n by omega) hn,Co,show toN (ofNat D) = D from rfl,KI]
      exact XA L n f hn D (fun _=>.und) q (by omega) (by omega) fun k h3 h4=>by
        by_cases h5:k = D
        · subst h5; exact he
        · exact hb k (by omega) h4
    | false =>
      have he:Ak (fun k=>Ay (f k)) D ≠ Ak (fun k=>Ay (f k)) n:=fun e=>by rw [hr,e] at hp; simp [ieq] at hp
      rw [<- Hn (fun k=>Ay (f k)) n (D+1) h (fun k hk e=>he (by have:=Bb (fun k=>Ay (f k)) (show k <= D by omega); have:=Bb (fun k=>Ay (f k)) (show D <= n by omega); omega)) hb]
      exact Ac (Aey L n f _ _ _ j (AH D) hb1 hk hp)
theorem T1 (L:LT) (n:Nat) (f:Nat->E6) (hn:n <= 4611686018427387904):∀ (e i:Nat) (j:Nat->V) (q:Nat),n = i+e->e < q ->
    (A7 (Gm L) (LV n f) q (LJ n f (ofNat (Ak (fun k=>Au (f k)) i)) i (CL (fun k=>Au (f k)) i) j)).sem = some (H7 n f (ofNat (Ak (fun k=>Au (f k)) n)) n (CL (fun k=>Au (f k)) n))
  | 0,i,j,q+1,h,_=>by
    have:n = i:=by omega
    subst this
    exact Ac (AeQ L n f _ _ _ j (AA (Nat.le_refl _)))
  | e+1,i,j,q+1,h,h2=>by
    have hc:=Be (fun k=>Au (f k)) i
    have hl:ilt (ofNat i) (ofNat n) = true:=ofNat_lt (by omega)
    have hb:Ag (ile 0 (ofNat i)) (ilt (ofNat i) (ofNat n)) = true:=by rw [AH,hl]; rfl
    have hk:nlt i n = true:=by simpa [nlt] using (show i < n by omega)
    cases hp:Au (f i) with
    | true =>
      rw [Ac (AeO L n f _ i _ j hl hb hk hp),Av,Aq (show i < n by omega) hn,Aq (show Ak (fun k=>Au (f k)) i < n by omega) hn,
        show Ak (fun k=>Au (f k)) i+1 = Ak (fun k=>Au (f k)) (i+1) by rw [Ak,hp],Co,JU]
      exact T1 L n f hn e (i+1) (fun _=>.und) q (by omega) (by omega)
    | false =>
      rw [Ac (AeP L n f _ i _ j hl hb hk hp),Av,Aq (show i < n by omega) hn,Co,JU,
        show Ak (fun k=>Au (f k)) i = Ak (fun k=>Au (f k)) (i+1) by rw [Ak,hp]]
      exact T1 L n f hn e (i+1) (fun _=>.und) q (by omega) (by omega)
theorem XB (L:LT) (n:Nat) (f:Nat->E6) (hn:n <= 4611686018427387904):∀ (D:Nat) (j:Nat->V) (q:Nat),D <= n->D < q->(∀ k,D <= k->k < n->Ak (fun k=>Au (f k)) k = Ak (fun k=>Au (f k)) n) ->
    (A7 (Fu L) (FX n f) q (IG n f (ofNat (Ak (fun k=>Au (f k)) n)) (dn D) (CL (fun k=>Au (f k)) D) j)).sem = some (GN n f 0 0 (A0 (fun k=>Au (f k)) n))
  | 0,j,q+1,h,_,hb=>by
    rw [<- Hn (fun k=>Au (f k)) n 0 h (fun k hk=>absurd hk (Nat.not_lt_zero _)) hb]
    exact Ac (Ae2 L n f _ _ _ j rfl)
  | D+1,j,q+1,h,h2,hb=>by
    have hl:ilt (ofNat D) (ofNat n) = true:=ofNat_lt (by omega)
    have hb1:Ag (ile 0 (ofNat D)) (ilt (ofNat D) (ofNat n)) = true:=by rw [AH,hl]; rfl
    have hk:nlt D n = true:=by simpa [nlt] using (show D < n by omega)
    have hr:CL (fun k=>Au (f k)) (D+1) D = ofNat (Ak (fun k=>Au (f k)) D):=by simp [CL]
    cases hp:ieq (CL (fun k=>Au (f k)) (D+1) D) (ofNat (Ak (fun k=>Au (f k)) n)) with
    | true =>
      have he:Ak (fun k=>Au (f k)) D = Ak (fun k=>Au (f k)) n:=by
        rw [hr] at hp
        have h7:((Ak (fun k=>Au (f k)) D:Nat):Int) = ((Ak (fun k=>Au (f k)) n:Nat):Int):=by simpa [ieq] using hp
        omega
      rw [show dn (D+1) = ofNat D from rfl,Ac (Ae0 L n f _ _ _ j (AH D) hb1 hk hp),Av,Py (show D <= n by omega) hn,Co,show toN (ofNat D) = D from rfl,KI]
      exact XB L n f hn D (fun _=>.und) q (by omega) (by omega) fun k h3 h4=>by
        by_cases h5:k = D
        · subst h5; exact he
        · exact hb k (by omega) h4
    | false =>
      have he:Ak (fun k=>Au (f k)) D ≠ Ak (fun k=>Au (f k)) n:=fun e=>by rw [hr,e] at hp; simp [ieq] at hp
      rw [<- Hn (fun k=>Au (f k)) n (D+1) h (fun k hk e=>he (by have:=Bb (fun k=>Au (f k)) (show k <= D by omega); have:=Bb (fun k=>Au (f k)) (show D <= n by omega); omega)) hb]
      exact Ac (Ae1 L n f _ _ _ j (AH D) hb1 hk hp)
def TA:List V->T (V × List Blk)
  | [v,.fn g []]=>apL v fun n f=>.br (BO 8 (ofNat n) (ofNat n)) (match Nat.beq g 83,Nat.beq g 84 with
    | true,_=>.leaf (.ref 0,[.row 3 1 n fun k=>iV (A0 (fun k=>Ay (f k)) n k)])
    | false,true=>.leaf (.ref 0,[.row 3 1 n fun k=>iV (A0 (fun k=>Au (f k)) n k)])
    | false,false=>.fail) .fail
  | _=>.fail
theorem T7 (p:Nat->Bool):CL p 0 = fun _=>0:=by
  funext k
  simp [CL]
theorem PZ (p:Nat->Bool) (n:Nat) (h:Ak p n = 0):CL p n = A0 p n:=by
  funext k
  unfold CL A0
  by_cases h3:k < n
  · have:=Bb p (show k <= n by omega)
    have h4:Ak p k = 0:=by omega
    simp [h3,h,h4]
  · simp [h3]
theorem ZG (n:Nat) (f:Nat->E6) (hm:BO 8 (ofNat n) (ofNat n) = true) :
    (As (Aj tab (AI Gl tbY [(0,LU n f),(2,FW n f)]) Try.f87 [A2 n f,.fn 83 []] [])).sem = some (.ref 0,[.row 3 1 n fun k=>iV (A0 (fun k=>Ay (f k)) n k)]):=by
  have hn:n <= 4611686018427387904:=by
    simp only [BO,Bool.and_eq_true,decide_eq_true_eq] at hm
    have:=hm.2.2.1
    simp only [Int.ofNat_eq_natCast] at this
    omega
  have hL:=AD [(0,LU n f),(2,FW n f)]
  have h0:=fun L j=>T0 L n f hn n 0 j (n+1) (by omega) (by omega)
  have h2:=fun L j=>XA L n f hn n j (n+1) (Nat.le_refl _) (by omega) (fun k h1 h2=>by omega)
  rw [T7] at h0
  rw [<- Py (Nat.le_refl n) hn] at h2
  cases hs:ilt 0 (ofNat (Ak (fun k=>Ay (f k)) n)) with
  | true=>exact A3 (Aw (Aw hL hL) hL) _ (Ac8 _ _ _ n f _ 0 n (CL (fun k=>Ay (f k)) n) (A0 (fun k=>Ay (f k)) n) hm hs (An (h0 _ _)) (An (h2 _ _)))
  | false =>
    rw [<- PZ (fun k=>Ay (f k)) n (by simpa [ilt] using hs)]
    exact A3 (Aw hL hL) _ (Ac7 _ _ n f _ n _ hm hs (An (h0 _ _)))
theorem ZH (n:Nat) (f:Nat->E6) (hm:BO 8 (ofNat n) (ofNat n) = true) :
    (As (Aj tab (AI Gl tbY [(0,LV n f),(2,FX n f)]) Try.f87 [A2 n f,.fn 84 []] [])).sem = some (.ref 0,[.row 3 1 n fun k=>iV (A0 (fun k=>Au (f k)) n k)]):=by
  have hn:n <= 4611686018427387904:=by
    simp only [BO,Bool.and_eq_true,decide_eq_true_eq] at hm
    have:=hm.2.2.1
    simp only [Int.ofNat_eq_natCast] at this
    omega
  have hL:=AD [(0,LV n f),(2,FX n f)]
  have h0:=fun L j=>T1 L n f hn n 0 j (n+1) (by omega) (by omega)
  have h2:=fun L j=>XB L n f hn n j (n+1) (Nat.le_refl _) (by omega) (fun k h1 h2=>by omega)
  rw [T7] at h0
  rw [<- Py (Nat.le_refl n) hn] at h2
  cases hs:ilt 0 (ofNat (Ak (fun k=>Au (f k)) n)) with
  | true=>exact A3 (Aw (Aw hL hL) hL) _ (AcA _ _ _ n f _ 0 n (CL (fun k=>Au (f k)) n) (A0 (fun k=>Au (f k)) n) hm hs (An (h0 _ _)) (An (h2 _ _)))
  | false =>
    rw [<- PZ (fun k=>Au (f k)) n (by simpa [ilt] using hs)]
    exact A3 (Aw hL hL) _ (Ac9 _ _ n f _ n _ hm hs (An (h0 _ _)))
theorem p92:AB Try.prog Gl 87 TA:=by
  refine A1 AQ AR Try.func87 (by kernel_rfl) (by kernel_rfl) fun vs v h' h=>?_
  unfold TA at h
  split at h
  · rename_i u g
    obtain ⟨n,f,ha,h1⟩:=Cj h
    obtain ⟨hm,hq⟩:=Ah h1
    clear h h1
    have hA:Bw [u,.fn g []] [A2 n f,.fn g []]:=fun S w cs hv=>by
      obtain ⟨c,l,rfl,q1,q2⟩:=hv
      exact ⟨c,l,rfl,ha S w c q1,q2⟩
    split at hq
    · rename_i h1
      have h1:=Nat.eq_of_beq_eq_true h1
      subst h1
      have:=Ad hq
      simp only [Prod.mk.injEq] at this
      obtain ⟨rfl,rfl⟩:=this
      have hx:=AP MI [(0,LU n f),(2,FW n f)]
      exact ⟨_,AI Gl tbY [(0,LU n f),(2,FW n f)],_,hA,rfl,hx.1,hx.2,ZG n f hm,A6.refl _⟩
    · rename_i h1
      have h1:=Nat.eq_of_beq_eq_true h1
      subst h1
      have:=Ad hq
      simp only [Prod.mk.injEq] at this
      obtain ⟨rfl,rfl⟩:=this
      have hx:=AP MI [(0,LV n f),(2,FX n f)]
      exact ⟨_,AI Gl tbY [(0,LV n f),(2,FX n f)],_,hA,rfl,hx.1,hx.2,ZH n f hm,A6.refl _⟩
    · cases hq
  · cases h
end Go.Proofs.Ytjhnfomefcngfaa.Ed
namespace Go.Proofs.Ytjhnfomefcngfaa.Ed
open Go.Sy
end Go.Proofs.Ytjhnfomefcngfaa.Ed
namespace Go.Proofs.Ytjhnfomefcngfaa.Ed
open Go.Sy
def okI (v:V):Bool:=match gI v with
  | some _=>true
  | none=>false
def edI (v:V):Int:=match gI v with
  | some e=>e
  | none=>0
theorem Nq {v:V} (h:okI v = true):v = iV (edI v):=by
  unfold okI at h
  unfold edI
  split at h
  · rename_i e he
    exact Ga he
  · cases h
def Cg (n:Nat) (f:Nat->Int):V:=.sl 1 n fun i=>iV (f i)
def Ab1:V->Option (Nat × (Nat->V))
  | .sl s n g=>match Nat.beq s 1 with
    | true=>some (n,g)
    | false=>none
  | _=>none
def apI {α:Type} (v:V) (F:Nat->(Nat->Int)->T α):T α :=
  match Ab1 v with
  | some (n,g)=>.br (Ai n fun i=>okI (g i)) (F n fun i=>edI (g i)) .fail
  | none=>.fail
theorem EM {α:Type} {v:V} {F:Nat->(Nat->Int)->T α} {r:α} (h:(apI v F).sem = some r) :
    ∃ n f,(∀ (S:Nat->Prop) (w:World) (c:Value),VR S w v noK c->VR S w (Cg n f) noK c) ∧ (F n f).sem = some r:=by
  unfold apI at h
  split at h
  · rename_i n g hg
    obtain ⟨h1,h2⟩:=Ah h
    have h1:=A4.1 h1
    refine ⟨n,_,fun S w c hv=>?_,h2⟩
    unfold Ab1 at hg
    split at hg
    · rename_i s n' g'
      split at hg
      · rename_i hs
        simp only [Option.some.injEq,Prod.mk.injEq] at hg
        obtain ⟨rfl,rfl⟩:=hg
        have hs:s = 1:=Nat.eq_of_beq_eq_true hs
        subst hs
        obtain ⟨a,cap,e,hc,hb⟩:=hv
        refine ⟨a,cap,e,hc,hb.imp id ?_⟩
        rintro ⟨b,o,ea,hel⟩
        refine ⟨b,o,ea,fun i hi=>?_⟩
        have:=hel i hi
        rw [Nq (h1 i hi)] at this
        exact this
      · cases hg
    · cases hg
  · cases h
def AbD (F:Nat->(Nat->Int)->Nat->(Nat->Int)->T (V × List Blk)):List V->T (V × List Blk)
  | [v,u]=>apI v fun n f=>apI u fun m g=>F n f m g
  | _=>.fail
theorem P7 {F:Nat->(Nat->Int)->Nat->(Nat->Int)->T (V × List Blk)} {vs:List V} {r:V × List Blk} (h:(AbD F vs).sem = some r) :
    ∃ n f m g,Bw vs [Cg n f,Cg m g] ∧ (F n f m g).sem = some r:=by
  unfold AbD at h
  split at h
  · obtain ⟨n,f,h1,h2⟩:=EM h
    obtain ⟨m,g,h3,h4⟩:=EM h2
    refine ⟨n,f,m,g,fun S w cs hv=>?_,h4⟩
    obtain ⟨c,l,rfl,q1,c',l',rfl,q2,q3⟩:=hv
    exact ⟨c,_,rfl,h1 S w c q1,c',l',rfl,h3 S w c' q2,q3⟩
  · cases h
def AbE (F:Nat->(Nat->Int)->T (V × List Blk)):List V->T (V × List Blk)
  | [v]=>apI v F
  | _=>.fail
theorem P8 {F:Nat->(Nat->Int)->T (V × List Blk)} {vs:List V} {r:V × List Blk} (h:(AbE F vs).sem = some r):∃ n f,Bw vs [Cg n f] ∧ (F n f).sem = some r:=by
  unfold AbE at h
  split at h
  · obtain ⟨n,f,h1,h2⟩:=EM h
    refine ⟨n,f,fun S w cs hv=>?_,h2⟩
    obtain ⟨c,l,rfl,q1,q2⟩:=hv
    exact ⟨c,l,rfl,h1 S w c q1,q2⟩
  · cases h
def okB (v:V):Bool:=match gB v with
  | some _=>true
  | none=>false
def edB (v:V):Bool:=match gB v with
  | some e=>e
  | none=>false
theorem Yi {v:V} (h:okB v = true):v = bV (edB v):=by
  unfold okB at h
  unfold edB
  split at h
  · rename_i e he
    exact Qx he
  · cases h
def Uk (n:Nat) (f:Nat->Bool):V:=.sl 1 n fun i=>bV (f i)
def apB {α:Type} (v:V) (F:Nat->(Nat->Bool)->T α):T α :=
  match Ab1 v with
  | some (n,g)=>.br (Ai n fun i=>okB (g i)) (F n fun i=>edB (g i)) .fail
  | none=>.fail
theorem Z3 {α:Type} {v:V} {F:Nat->(Nat->Bool)->T α} {r:α} (h:(apB v F).sem = some r) :
    ∃ n f,(∀ (S:Nat->Prop) (w:World) (c:Value),VR S w v noK c->VR S w (Uk n f) noK c) ∧ (F n f).sem = some r:=by
  unfold apB at h
  split at h
  · rename_i n g hg
    obtain ⟨h1,h2⟩:=Ah h
    have h1:=A4.1 h1
    refine ⟨n,_,fun S w c hv=>?_,h2⟩
    unfold Ab1 at hg
    split at hg
    · rename_i s n' g'
      split at hg
      · rename_i hs
        simp only [Option.some.injEq,Prod.mk.injEq] at hg
        obtain ⟨rfl,rfl⟩:=hg
        have hs:s = 1:=Nat.eq_of_beq_eq_true hs
        subst hs
        obtain ⟨a,cap,e,hc,hb⟩:=hv
        refine ⟨a,cap,e,hc,hb.imp id ?_⟩
        rintro ⟨b,o,ea,hel⟩
        refine ⟨b,o,ea,fun i hi=>?_⟩
        have:=hel i hi
        rw [Yi (h1 i hi)] at this
        exact this
      · cases hg
    · cases hg
  · cases h
end Go.Proofs.Ytjhnfomefcngfaa.Ed
