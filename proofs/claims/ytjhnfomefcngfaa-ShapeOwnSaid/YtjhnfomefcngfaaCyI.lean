/-
  Layer 4: the parts of a cycle. No conditions.
-/
import Derived.Test.YtjhnfomefcngfaaCyB
import Derived.Test.YtjhnfomefcngfaaSyS
namespace Go.Proofs.Ytjhnfomefcngfaa.Ed
open Go.Sy
open Int (ofNat)
def C9 (p:Nat->Bool) (i k:Nat):Int:=bif decide (k < i) then ofNat (Aj p k) else 0
def A0 (p:Nat->Bool) (n k:Nat):Int:=bif decide (k < n) then (bif decide (Aj p k = Aj p n) then 0 else ofNat (Aj p k)) else 0
def M7 (h:Nat->Int) (i:Nat) (s:Int) (k:Nat):Int:=bif decide (k = i) then s else h k
theorem Cf (h:Nat->Int) (i:Nat) (s:Int):Bl (fun k=>iV (h k)) i (iV s) = fun k=>iV (M7 h i s k):=by
  funext k
  rw [Ei,show Nat.beq k i = decide (k = i) by rw [Bool.eq_iff_iff]; simp]
  unfold M7
  cases decide (k = i) <;> rfl
theorem JO (p:Nat->Bool) (i:Nat):M7 (C9 p i) i (ofNat (Aj p i)) = C9 p (i+1):=by
  funext k
  unfold M7 C9
  by_cases h:k = i
  · subst h; simp
  · by_cases h2:k < i
    · have:k < i+1:=by omega
      simp [h,h2,this]
    · have:¬ k < i+1:=by omega
      simp [h,h2,this]
theorem KG (p:Nat->Bool) (i:Nat):M7 (C9 p (i+1)) i 0 = C9 p i:=by
  funext k
  unfold M7 C9
  by_cases h:k = i
  · subst h; simp
  · by_cases h2:k < i
    · have:k < i+1:=by omega
      simp [h,h2,this]
    · have:¬ k < i+1:=by omega
      simp [h,h2,this]
def dn:Nat->Int
  | 0=>-1
  | D+1=>ofNat D
theorem Pz {D n:Nat} (h:D <= n) (hn:n <= 4611686018427387904):wr .i64 (As (ofNat D) 1) = dn D:=by
  cases D with
  | zero=>rfl
  | succ D =>
    unfold wr As IntKind.wrap dn
    simp [IntKind.bits,IntKind.signed]
    omega
theorem AY (p:Nat->Bool):∀ {i k:Nat},i <= k->Aj p i <= Aj p k
  | i,0,h=>by
    have:i = 0:=by omega
    subst this
    exact Nat.le_refl _
  | i,k+1,h=>by
    by_cases h2:i = k+1
    · subst h2; exact Nat.le_refl _
    · have:=AY p (show i <= k by omega)
      refine Nat.le_trans this ?_
      rw [show Aj p (k+1) = (match p k with | true=>Aj p k+1 | false=>Aj p k) from rfl]
      cases p k
      · exact Nat.le_refl _
      · exact Nat.le_succ _
theorem He (p:Nat->Bool) (n D:Nat) (h:D <= n) (h1:∀ k,k < D->Aj p k ≠ Aj p n) (h2:∀ k,D <= k->k < n->Aj p k = Aj p n):C9 p D = A0 p n:=by
  funext k
  unfold C9 A0
  by_cases h3:k < D
  · have h4:k < n:=by omega
    simp [h3,h4,h1 k h3]
  · by_cases h4:k < n
    · simp [h3,h4,h2 k (by omega) h4]
    · simp [h3,h4]
def LP (n:Nat) (f:Nat->E6):Lp:=⟨(bmK 51 0 [0,1,5,6,13,14,15]),2,bmK 51 0 [0,5,6],2,n+1⟩
def LC (n:Nat) (f:Nat->E6) (s:Int) (i:Nat) (h:Nat->Int) (j:Nat->V):St:=⟨(jsV 51 0 j [(0,.sl 6 n (fun i=>eV (f i))),(1,.fn 83 []),(5,.ref 1),(6,iV s),(13,.sl 6 n (fun i=>eV (f i))),(14,nV n),(15,nV i)]),[.row 3 1 0 (fun _=>.und),.row 3 1 n (fun k=>iV (h k))]⟩
def Hw (n:Nat) (f:Nat->E6) (s:Int) (i:Nat) (h:Nat->Int):Ex × St:=(.ex 0,⟨(jsV 51 0 (fun _=>.und) [(0,.sl 6 n (fun i=>eV (f i))),(5,.ref 1),(6,iV s)]),[.row 3 1 0 (fun _=>.und),.row 3 1 n (fun k=>iV (h k))]⟩)
noncomputable def Gc (L:LT):St->T (Ex × St):=fun st=>A9 tab ⟨Ao tbY,L,Gl⟩ (Av Try.f87 0) 0 st
section
variable (L:LT) (n:Nat) (f:Nat->E6) (s:Int) (i:Nat) (h:Nat->Int)  (j:Nat->V)
include L n f s i h j
abbrev r3Z:Blk:=.row 3 1 0 fun _=>.und
theorem AeW (h0:ilt (ofNat i) (ofNat n) = false):Ai (Gc L) (LP n f) (LC n f s i h j) = some ((.ex 0),⟨(jsV 51 0 (fun _=>.und) [(0,(.sl 6 n (fun i=>eV (f i)))),(5,(.ref 1)),(6,(iV s))]),[r3Z,.row 3 1 n (fun k=>iV (h k))]⟩):=Aa [false] [ilt (ofNat i) (ofNat n)] (by kernel_rfl) (by simp only [h0] <;> rfl)
theorem AeU (h0:ilt (ofNat i) (ofNat n) = true) (h1:Af (ile 0 (ofNat i)) (ilt (ofNat i) (ofNat n)) = true) (h2:nlt i n = true) (h3:Az (f i) = true):Ai (Gc L) (LP n f) (LC n f s i h j) = some (.nm,⟨(jsV 51 0 (fun _=>.und) [(0,(.sl 6 n (fun i=>eV (f i)))),(1,(.fn 83 [])),(5,(.ref 1)),(6,(iV (wr .i64 (Ae s 1)))),(13,(.sl 6 n (fun i=>eV (f i)))),(14,(nV n)),(15,(iV (wr .i64 (Ae (ofNat i) 1))))]),[r3Z,.row 3 1 n (Bl (fun k=>iV (h k)) i (iV s))]⟩):=Aa [true,true,true,true,true] ((fun c0=>[ilt (ofNat i) (ofNat n),c0,c0,nlt i n,Az (f i)]) (Af (ile 0 (ofNat i)) (ilt (ofNat i) (ofNat n)))) (by kernel_rfl) (by simp only [h1] <;> simp only [*] <;> rfl)
theorem AeV (h0:ilt (ofNat i) (ofNat n) = true) (h1:Af (ile 0 (ofNat i)) (ilt (ofNat i) (ofNat n)) = true) (h2:nlt i n = true) (h3:Az (f i) = false):Ai (Gc L) (LP n f) (LC n f s i h j) = some (.nm,⟨(jsV 51 0 (fun _=>.und) [(0,(.sl 6 n (fun i=>eV (f i)))),(1,(.fn 83 [])),(5,(.ref 1)),(6,(iV s)),(13,(.sl 6 n (fun i=>eV (f i)))),(14,(nV n)),(15,(iV (wr .i64 (Ae (ofNat i) 1))))]),[r3Z,.row 3 1 n (Bl (fun k=>iV (h k)) i (iV s))]⟩):=Aa [true,true,true,true,false] ((fun c0=>[ilt (ofNat i) (ofNat n),c0,c0,nlt i n,Az (f i)]) (Af (ile 0 (ofNat i)) (ilt (ofNat i) (ofNat n)))) (by kernel_rfl) (by simp only [h1] <;> simp only [*] <;> rfl)
end
def Vm (n:Nat) (f:Nat->E6) :Nat->V:=lkV A7 [(4,(.ref 0)),(10,(.sl 6 n (fun i=>eV (f i)))),(11,(nV n)),(12,(.ref 1))]
def FQ (n:Nat) (f:Nat->E6):Lp:=⟨(bmK 51 0 [5,6,9]),2,bmK 51 0 [5],2,n+1⟩
def I4 (n:Nat) (f:Nat->E6) (s d:Int) (h:Nat->Int) (j:Nat->V):St:=⟨(jsV 51 0 j [(5,.ref 1),(6,iV s),(9,iV d)]),[.row 3 1 0 (fun _=>.und),.row 3 1 n (fun k=>iV (h k))]⟩
def GE (n:Nat) (f:Nat->E6) (s d:Int) (h:Nat->Int):Ex × St:=(.ex 2,⟨(jsV 51 0 (fun _=>.und) [(5,.ref 1)]),[.row 3 1 0 (fun _=>.und),.row 3 1 n (fun k=>iV (h k))]⟩)
noncomputable def Fq (L:LT):St->T (Ex × St):=fun st=>A9 tab ⟨Ao tbY,L,Gl⟩ (Av Try.f87 2) 2 st
section
variable (L:LT) (n:Nat) (f:Nat->E6) (s d:Int) (h:Nat->Int)  (j:Nat->V)
include L n f s d h j
theorem Ae8 (h0:ile 0 d = false):Ai (Fq L) (FQ n f) (I4 n f s d h j) = some ((.ex 2),⟨(jsV 51 0 (fun _=>.und) [(5,(.ref 1))]),[r3Z,.row 3 1 n (fun k=>iV (h k))]⟩):=Aa (bbK 8 0) [ile 0 d,ile 0 d,ile 0 d,ile 0 d,ile 0 d,ile 0 d,ile 0 d,false] (by kernel_rfl) (by simp only [h0] <;> rfl)
theorem Ae7 (h0:ile 0 d = true) (h1:Af (ile 0 d) (ilt d (ofNat n)) = true) (h2:nlt (toN d) n = true) (h3:ieq (h (toN d)) s = false):Ai (Fq L) (FQ n f) (I4 n f s d h j) = some ((.ex 2),⟨(jsV 51 0 (fun _=>.und) [(5,(.ref 1))]),[r3Z,.row 3 1 n (fun k=>iV (h k))]⟩):=Aa (bbK 10 511) [ile 0 d,ile 0 d,ile 0 d,Af (ile 0 d) (ilt d (ofNat n)),ile 0 d,nlt (toN d) n,ile 0 d,ile 0 d,ile 0 d,ieq (h (toN d)) s] (by kernel_rfl) (by simp only [h1] <;> simp only [*] <;> rfl)
theorem Ae6 (h0:ile 0 d = true) (h1:Af (ile 0 d) (ilt d (ofNat n)) = true) (h2:nlt (toN d) n = true) (h3:ieq (h (toN d)) s = true):Ai (Fq L) (FQ n f) (I4 n f s d h j) = some (.nm,⟨(jsV 51 0 (fun _=>.und) [(5,(.ref 1)),(6,(iV s)),(9,(iV (wr .i64 (As d 1))))]),[r3Z,.row 3 1 n (Bl (fun k=>iV (h k)) (toN d) (iV 0))]⟩):=Aa (bbK 12 4095) ((fun c0 c1 c2=>[c0,c0,c0,c1,c0,c2,c0,c0,c0,ieq (h (toN d)) s,c1,c2]) (ile 0 d) (Af (ile 0 d) (ilt d (ofNat n))) (nlt (toN d) n)) (by kernel_rfl) (by simp only [h1] <;> simp only [*] <;> rfl)
end
def Vo (n:Nat) (f:Nat->E6) (s:Int) (i:Nat) (h:Nat->Int):Nat->V:=lkV A7 [(0,(.sl 6 n (fun i=>eV (f i)))),(1,.und),(2,.und),(3,.und),(4,.und),(7,.und),(8,.und),(10,.und),(11,.und),(12,.und),(13,.und),(14,.und),(15,.und),(16,.und),(17,.und),(18,.und),(19,.und),(20,.und),(21,.und),(22,.und),(23,.und),(24,.und),(25,.und),(26,.und),(27,.und),(28,.und),(29,.und),(30,(iV s)),(31,(bV (ilt 0 s))),(32,(.sl 6 n (fun i=>eV (f i)))),(33,(nV n)),(34,(iV (wr .i64 (As (ofNat n) 1)))),(35,.und),(36,.und),(37,.und),(38,.und),(39,.und),(40,.und),(41,.und),(42,.und),(43,.und),(44,.und),(45,.und),(46,.und),(47,.und),(48,.und),(49,.und),(50,.und)]
theorem AcA (L:LT) (p0:PT) (n:Nat) (f:Nat->E6) (s:Int) (i:Nat) (h:Nat->Int) (h0:BL 8 (ofNat n) (ofNat n) = true) (h1:ilt 0 s = false) (hp0:p0 (Gc (onP 0 p0 (Hw n f s i h) L)) (LC n f 0 0 (fun _=>0) (Vm n f )) = true):(A1 (Al tab ⟨Ao tbY,onP 0 p0 (Hw n f s i h) L,Gl⟩ Try.f87 [A2 n f,.fn 83 []] [])).sem = some ((.ref 0),[.row 3 1 n (fun k=>iV (h k))]):=Aa [true,true,false] [BL 8 (ofNat n) (ofNat n),p0 (Gc (onP 0 p0 (Hw n f s i h) L)) (LC n f 0 0 (fun _=>0) (Vm n f )),ilt 0 s] (by kernel_rfl) (by simp only [h0,h1,hp0] <;> rfl)
theorem AcB (L:LT) (p0:PT) (p2:PT) (n:Nat) (f:Nat->E6) (s d:Int) (i:Nat) (h g:Nat->Int) (h0:BL 8 (ofNat n) (ofNat n) = true) (h1:ilt 0 s = true) (hp0:p0 (Gc (onP 0 p0 (Hw n f s i h) (onP 2 p2 (GE n f s d g) L))) (LC n f 0 0 (fun _=>0) (Vm n f )) = true) (hp2:p2 (Fq (onP 0 p0 (Hw n f s i h) (onP 2 p2 (GE n f s d g) L))) (I4 n f s (wr .i64 (As (ofNat n) 1)) h (Vo n f s i h)) = true):(A1 (Al tab ⟨Ao tbY,onP 0 p0 (Hw n f s i h) (onP 2 p2 (GE n f s d g) L),Gl⟩ Try.f87 [A2 n f,.fn 83 []] [])).sem = some ((.ref 0),[.row 3 1 n (fun k=>iV (g k))]):=Aa [true,true,true,true] [BL 8 (ofNat n) (ofNat n),p0 (Gc (onP 0 p0 (Hw n f s i h) (onP 2 p2 (GE n f s d g) L))) (LC n f 0 0 (fun _=>0) (Vm n f )),ilt 0 s,p2 (Fq (onP 0 p0 (Hw n f s i h) (onP 2 p2 (GE n f s d g) L))) (I4 n f s (wr .i64 (As (ofNat n) 1)) h (Vo n f s i h))] (by kernel_rfl) (by simp only [h0,h1,hp0,hp2] <;> rfl)
def LQ (n:Nat) (f:Nat->E6):Lp:=⟨(bmK 51 0 [0,1,5,6,13,14,15]),2,bmK 51 0 [0,5,6],2,n+1⟩
def LD (n:Nat) (f:Nat->E6) (s:Int) (i:Nat) (h:Nat->Int) (j:Nat->V):St:=⟨(jsV 51 0 j [(0,.sl 6 n (fun i=>eV (f i))),(1,.fn 84 []),(5,.ref 1),(6,iV s),(13,.sl 6 n (fun i=>eV (f i))),(14,nV n),(15,nV i)]),[.row 3 1 0 (fun _=>.und),.row 3 1 n (fun k=>iV (h k))]⟩
def Hx (n:Nat) (f:Nat->E6) (s:Int) (i:Nat) (h:Nat->Int):Ex × St:=(.ex 0,⟨(jsV 51 0 (fun _=>.und) [(0,.sl 6 n (fun i=>eV (f i))),(5,.ref 1),(6,iV s)]),[.row 3 1 0 (fun _=>.und),.row 3 1 n (fun k=>iV (h k))]⟩)
noncomputable def Gd (L:LT):St->T (Ex × St):=fun st=>A9 tab ⟨Ao tbY,L,Gl⟩ (Av Try.f87 0) 0 st
section
variable (L:LT) (n:Nat) (f:Nat->E6) (s:Int) (i:Nat) (h:Nat->Int)  (j:Nat->V)
include L n f s i h j
theorem AeZ (h0:ilt (ofNat i) (ofNat n) = false):Ai (Gd L) (LQ n f) (LD n f s i h j) = some ((.ex 0),⟨(jsV 51 0 (fun _=>.und) [(0,(.sl 6 n (fun i=>eV (f i)))),(5,(.ref 1)),(6,(iV s))]),[r3Z,.row 3 1 n (fun k=>iV (h k))]⟩):=Aa [false] [ilt (ofNat i) (ofNat n)] (by kernel_rfl) (by simp only [h0] <;> rfl)
theorem AeX (h0:ilt (ofNat i) (ofNat n) = true) (h1:Af (ile 0 (ofNat i)) (ilt (ofNat i) (ofNat n)) = true) (h2:nlt i n = true) (h3:Au (f i) = true):Ai (Gd L) (LQ n f) (LD n f s i h j) = some (.nm,⟨(jsV 51 0 (fun _=>.und) [(0,(.sl 6 n (fun i=>eV (f i)))),(1,(.fn 84 [])),(5,(.ref 1)),(6,(iV (wr .i64 (Ae s 1)))),(13,(.sl 6 n (fun i=>eV (f i)))),(14,(nV n)),(15,(iV (wr .i64 (Ae (ofNat i) 1))))]),[r3Z,.row 3 1 n (Bl (fun k=>iV (h k)) i (iV s))]⟩):=Aa [true,true,true,true,true] ((fun c0=>[ilt (ofNat i) (ofNat n),c0,c0,nlt i n,Au (f i)]) (Af (ile 0 (ofNat i)) (ilt (ofNat i) (ofNat n)))) (by kernel_rfl) (by simp only [h1] <;> simp only [*] <;> rfl)
theorem AeY (h0:ilt (ofNat i) (ofNat n) = true) (h1:Af (ile 0 (ofNat i)) (ilt (ofNat i) (ofNat n)) = true) (h2:nlt i n = true) (h3:Au (f i) = false):Ai (Gd L) (LQ n f) (LD n f s i h j) = some (.nm,⟨(jsV 51 0 (fun _=>.und) [(0,(.sl 6 n (fun i=>eV (f i)))),(1,(.fn 84 [])),(5,(.ref 1)),(6,(iV s)),(13,(.sl 6 n (fun i=>eV (f i)))),(14,(nV n)),(15,(iV (wr .i64 (Ae (ofNat i) 1))))]),[r3Z,.row 3 1 n (Bl (fun k=>iV (h k)) i (iV s))]⟩):=Aa [true,true,true,true,false] ((fun c0=>[ilt (ofNat i) (ofNat n),c0,c0,nlt i n,Au (f i)]) (Af (ile 0 (ofNat i)) (ilt (ofNat i) (ofNat n)))) (by kernel_rfl) (by simp only [h1] <;> simp only [*] <;> rfl)
end
def Vn (n:Nat) (f:Nat->E6) :Nat->V:=lkV A7 [(4,(.ref 0)),(10,(.sl 6 n (fun i=>eV (f i)))),(11,(nV n)),(12,(.ref 1))]
def FR (n:Nat) (f:Nat->E6):Lp:=⟨(bmK 51 0 [5,6,9]),2,bmK 51 0 [5],2,n+1⟩
def I5 (n:Nat) (f:Nat->E6) (s d:Int) (h:Nat->Int) (j:Nat->V):St:=⟨(jsV 51 0 j [(5,.ref 1),(6,iV s),(9,iV d)]),[.row 3 1 0 (fun _=>.und),.row 3 1 n (fun k=>iV (h k))]⟩
def GF (n:Nat) (f:Nat->E6) (s d:Int) (h:Nat->Int):Ex × St:=(.ex 2,⟨(jsV 51 0 (fun _=>.und) [(5,.ref 1)]),[.row 3 1 0 (fun _=>.und),.row 3 1 n (fun k=>iV (h k))]⟩)
noncomputable def Fr (L:LT):St->T (Ex × St):=fun st=>A9 tab ⟨Ao tbY,L,Gl⟩ (Av Try.f87 2) 2 st
section
variable (L:LT) (n:Nat) (f:Nat->E6) (s d:Int) (h:Nat->Int)  (j:Nat->V)
include L n f s d h j
theorem AeB (h0:ile 0 d = false):Ai (Fr L) (FR n f) (I5 n f s d h j) = some ((.ex 2),⟨(jsV 51 0 (fun _=>.und) [(5,(.ref 1))]),[r3Z,.row 3 1 n (fun k=>iV (h k))]⟩):=Aa (bbK 8 0) [ile 0 d,ile 0 d,ile 0 d,ile 0 d,ile 0 d,ile 0 d,ile 0 d,false] (by kernel_rfl) (by simp only [h0] <;> rfl)
theorem AeA (h0:ile 0 d = true) (h1:Af (ile 0 d) (ilt d (ofNat n)) = true) (h2:nlt (toN d) n = true) (h3:ieq (h (toN d)) s = false):Ai (Fr L) (FR n f) (I5 n f s d h j) = some ((.ex 2),⟨(jsV 51 0 (fun _=>.und) [(5,(.ref 1))]),[r3Z,.row 3 1 n (fun k=>iV (h k))]⟩):=Aa (bbK 10 511) [ile 0 d,ile 0 d,ile 0 d,Af (ile 0 d) (ilt d (ofNat n)),ile 0 d,nlt (toN d) n,ile 0 d,ile 0 d,ile 0 d,ieq (h (toN d)) s] (by kernel_rfl) (by simp only [h1] <;> simp only [*] <;> rfl)
theorem Ae9 (h0:ile 0 d = true) (h1:Af (ile 0 d) (ilt d (ofNat n)) = true) (h2:nlt (toN d) n = true) (h3:ieq (h (toN d)) s = true):Ai (Fr L) (FR n f) (I5 n f s d h j) = some (.nm,⟨(jsV 51 0 (fun _=>.und) [(5,(.ref 1)),(6,(iV s)),(9,(iV (wr .i64 (As d 1))))]),[r3Z,.row 3 1 n (Bl (fun k=>iV (h k)) (toN d) (iV 0))]⟩):=Aa (bbK 12 4095) ((fun c0 c1 c2=>[c0,c0,c0,c1,c0,c2,c0,c0,c0,ieq (h (toN d)) s,c1,c2]) (ile 0 d) (Af (ile 0 d) (ilt d (ofNat n))) (nlt (toN d) n)) (by kernel_rfl) (by simp only [h1] <;> simp only [*] <;> rfl)
end
def Vp (n:Nat) (f:Nat->E6) (s:Int) (i:Nat) (h:Nat->Int):Nat->V:=lkV A7 [(0,(.sl 6 n (fun i=>eV (f i)))),(1,.und),(2,.und),(3,.und),(4,.und),(7,.und),(8,.und),(10,.und),(11,.und),(12,.und),(13,.und),(14,.und),(15,.und),(16,.und),(17,.und),(18,.und),(19,.und),(20,.und),(21,.und),(22,.und),(23,.und),(24,.und),(25,.und),(26,.und),(27,.und),(28,.und),(29,.und),(30,(iV s)),(31,(bV (ilt 0 s))),(32,(.sl 6 n (fun i=>eV (f i)))),(33,(nV n)),(34,(iV (wr .i64 (As (ofNat n) 1)))),(35,.und),(36,.und),(37,.und),(38,.und),(39,.und),(40,.und),(41,.und),(42,.und),(43,.und),(44,.und),(45,.und),(46,.und),(47,.und),(48,.und),(49,.und),(50,.und)]
theorem AcC (L:LT) (p0:PT) (n:Nat) (f:Nat->E6) (s:Int) (i:Nat) (h:Nat->Int) (h0:BL 8 (ofNat n) (ofNat n) = true) (h1:ilt 0 s = false) (hp0:p0 (Gd (onP 0 p0 (Hx n f s i h) L)) (LD n f 0 0 (fun _=>0) (Vn n f )) = true):(A1 (Al tab ⟨Ao tbY,onP 0 p0 (Hx n f s i h) L,Gl⟩ Try.f87 [A2 n f,.fn 84 []] [])).sem = some ((.ref 0),[.row 3 1 n (fun k=>iV (h k))]):=Aa [true,true,false] [BL 8 (ofNat n) (ofNat n),p0 (Gd (onP 0 p0 (Hx n f s i h) L)) (LD n f 0 0 (fun _=>0) (Vn n f )),ilt 0 s] (by kernel_rfl) (by simp only [h0,h1,hp0] <;> rfl)
theorem AcD (L:LT) (p0:PT) (p2:PT) (n:Nat) (f:Nat->E6) (s d:Int) (i:Nat) (h g:Nat->Int) (h0:BL 8 (ofNat n) (ofNat n) = true) (h1:ilt 0 s = true) (hp0:p0 (Gd (onP 0 p0 (Hx n f s i h) (onP 2 p2 (GF n f s d g) L))) (LD n f 0 0 (fun _=>0) (Vn n f )) = true) (hp2:p2 (Fr (onP 0 p0 (Hx n f s i h) (onP 2 p2 (GF n f s d g) L))) (I5 n f s (wr .i64 (As (ofNat n) 1)) h (Vp n f s i h)) = true):(A1 (Al tab ⟨Ao tbY,onP 0 p0 (Hx n f s i h) (onP 2 p2 (GF n f s d g) L),Gl⟩ Try.f87 [A2 n f,.fn 84 []] [])).sem = some ((.ref 0),[.row 3 1 n (fun k=>iV (g k))]):=Aa [true,true,true,true] [BL 8 (ofNat n) (ofNat n),p0 (Gd (onP 0 p0 (Hx n f s i h) (onP 2 p2 (GF n f s d g) L))) (LD n f 0 0 (fun _=>0) (Vn n f )),ilt 0 s,p2 (Fr (onP 0 p0 (Hx n f s i h) (onP 2 p2 (GF n f s d g) L))) (I5 n f s (wr .i64 (As (ofNat n) 1)) h (Vp n f s i h))] (by kernel_rfl) (by simp only [h0,h1,hp0,hp2] <;> rfl)
theorem T3 (L:LT) (n:Nat) (f:Nat->E6) (hn:n <= 4611686018427387904):∀ (e i:Nat) (j:Nat->V) (q:Nat),n = i+e->e < q ->
    (A3 (Gc L) (LP n f) q (LC n f (ofNat (Aj (fun k=>Az (f k)) i)) i (C9 (fun k=>Az (f k)) i) j)).sem = some (Hw n f (ofNat (Aj (fun k=>Az (f k)) n)) n (C9 (fun k=>Az (f k)) n))
  | 0,i,j,q+1,h,_=>by
    have:n = i:=by omega
    subst this
    exact Ab (AeW L n f _ _ _ j (A8 (Nat.le_refl _)))
  | e+1,i,j,q+1,h,h2=>by
    have hc:=Bd (fun k=>Az (f k)) i
    have hl:ilt (ofNat i) (ofNat n) = true:=ofNat_lt (by omega)
    have hb:Af (ile 0 (ofNat i)) (ilt (ofNat i) (ofNat n)) = true:=by rw [AJ,hl]; rfl
    have hk:nlt i n = true:=by simpa [nlt] using (show i < n by omega)
    cases hp:Az (f i) with
    | true =>
      rw [Ab (AeU L n f _ i _ j hl hb hk hp),Aw,Aq (show i < n by omega) hn,Aq (show Aj (fun k=>Az (f k)) i < n by omega) hn,
        show Aj (fun k=>Az (f k)) i+1 = Aj (fun k=>Az (f k)) (i+1) by rw [Aj,hp],Cf,JO]
      exact T3 L n f hn e (i+1) (fun _=>.und) q (by omega) (by omega)
    | false =>
      rw [Ab (AeV L n f _ i _ j hl hb hk hp),Aw,Aq (show i < n by omega) hn,Cf,JO,
        show Aj (fun k=>Az (f k)) i = Aj (fun k=>Az (f k)) (i+1) by rw [Aj,hp]]
      exact T3 L n f hn e (i+1) (fun _=>.und) q (by omega) (by omega)
theorem XP (L:LT) (n:Nat) (f:Nat->E6) (hn:n <= 4611686018427387904):∀ (D:Nat) (j:Nat->V) (q:Nat),D <= n->D < q->(∀ k,D <= k->k < n->Aj (fun k=>Az (f k)) k = Aj (fun k=>Az (f k)) n) ->
    (A3 (Fq L) (FQ n f) q (I4 n f (ofNat (Aj (fun k=>Az (f k)) n)) (dn D) (C9 (fun k=>Az (f k)) D) j)).sem = some (GE n f 0 0 (A0 (fun k=>Az (f k)) n))
  | 0,j,q+1,h,_,hb=>by
    rw [<- He (fun k=>Az (f k)) n 0 h (fun k hk=>absurd hk (Nat.not_lt_zero _)) hb]
    exact Ab (Ae8 L n f _ _ _ j rfl)
  | D+1,j,q+1,h,h2,hb=>by
    have hl:ilt (ofNat D) (ofNat n) = true:=ofNat_lt (by omega)
    have hb1:Af (ile 0 (ofNat D)) (ilt (ofNat D) (ofNat n)) = true:=by rw [AJ,hl]; rfl
    have hk:nlt D n = true:=by simpa [nlt] using (show D < n by omega)
    have hr:C9 (fun k=>Az (f k)) (D+1) D = ofNat (Aj (fun k=>Az (f k)) D):=by simp [C9]
    cases hp:ieq (C9 (fun k=>Az (f k)) (D+1) D) (ofNat (Aj (fun k=>Az (f k)) n)) with
    | true =>
      have he:Aj (fun k=>Az (f k)) D = Aj (fun k=>Az (f k)) n:=by
        rw [hr] at hp
        have h7:((Aj (fun k=>Az (f k)) D:Nat):Int) = ((Aj (fun k=>Az (f k)) n:Nat):Int):=by simpa [ieq] using hp
        omega
      rw [show dn (D+1) = ofNat D from rfl,Ab (Ae6 L n f _ _ _ j (AJ D) hb1 hk hp),Aw,Pz (show D <= n by omega) hn,Cf,show toN (ofNat D) = D from rfl,KG]
      exact XP L n f hn D (fun _=>.und) q (by omega) (by omega) fun k h3 h4=>by
        by_cases h5:k = D
        · subst h5; exact he
        · exact hb k (by omega) h4
    | false =>
      have he:Aj (fun k=>Az (f k)) D ≠ Aj (fun k=>Az (f k)) n:=fun e=>by rw [hr,e] at hp; simp [ieq] at hp
      rw [<- He (fun k=>Az (f k)) n (D+1) h (fun k hk e=>he (by have:=AY (fun k=>Az (f k)) (show k <= D by omega); have:=AY (fun k=>Az (f k)) (show D <= n by omega); omega)) hb]
      exact Ab (Ae7 L n f _ _ _ j (AJ D) hb1 hk hp)
theorem T4 (L:LT) (n:Nat) (f:Nat->E6) (hn:n <= 4611686018427387904):∀ (e i:Nat) (j:Nat->V) (q:Nat),n = i+e->e < q ->
    (A3 (Gd L) (LQ n f) q (LD n f (ofNat (Aj (fun k=>Au (f k)) i)) i (C9 (fun k=>Au (f k)) i) j)).sem = some (Hx n f (ofNat (Aj (fun k=>Au (f k)) n)) n (C9 (fun k=>Au (f k)) n))
  | 0,i,j,q+1,h,_=>by
    have:n = i:=by omega
    subst this
    exact Ab (AeZ L n f _ _ _ j (A8 (Nat.le_refl _)))
  | e+1,i,j,q+1,h,h2=>by
    have hc:=Bd (fun k=>Au (f k)) i
    have hl:ilt (ofNat i) (ofNat n) = true:=ofNat_lt (by omega)
    have hb:Af (ile 0 (ofNat i)) (ilt (ofNat i) (ofNat n)) = true:=by rw [AJ,hl]; rfl
    have hk:nlt i n = true:=by simpa [nlt] using (show i < n by omega)
    cases hp:Au (f i) with
    | true =>
      rw [Ab (AeX L n f _ i _ j hl hb hk hp),Aw,Aq (show i < n by omega) hn,Aq (show Aj (fun k=>Au (f k)) i < n by omega) hn,
        show Aj (fun k=>Au (f k)) i+1 = Aj (fun k=>Au (f k)) (i+1) by rw [Aj,hp],Cf,JO]
      exact T4 L n f hn e (i+1) (fun _=>.und) q (by omega) (by omega)
    | false =>
      rw [Ab (AeY L n f _ i _ j hl hb hk hp),Aw,Aq (show i < n by omega) hn,Cf,JO,
        show Aj (fun k=>Au (f k)) i = Aj (fun k=>Au (f k)) (i+1) by rw [Aj,hp]]
      exact T4 L n f hn e (i+1) (fun _=>.und) q (by omega) (by omega)
theorem XQ (L:LT) (n:Nat) (f:Nat->E6) (hn:n <= 4611686018427387904):∀ (D:Nat) (j:Nat->V) (q:Nat),D <= n->D < q->(∀ k,D <= k->k < n->Aj (fun k=>Au (f k)) k = Aj (fun k=>Au (f k)) n) ->
    (A3 (Fr L) (FR n f) q (I5 n f (ofNat (Aj (fun k=>Au (f k)) n)) (dn D) (C9 (fun k=>Au (f k)) D) j)).sem = some (GF n f 0 0 (A0 (fun k=>Au (f k)) n))
  | 0,j,q+1,h,_,hb=>by
    rw [<- He (fun k=>Au (f k)) n 0 h (fun k hk=>absurd hk (Nat.not_lt_zero _)) hb]
    exact Ab (AeB L n f _ _ _ j rfl)
  | D+1,j,q+1,h,h2,hb=>by
    have hl:ilt (ofNat D) (ofNat n) = true:=ofNat_lt (by omega)
    have hb1:Af (ile 0 (ofNat D)) (ilt (ofNat D) (ofNat n)) = true:=by rw [AJ,hl]; rfl
    have hk:nlt D n = true:=by simpa [nlt] using (show D < n by omega)
    have hr:C9 (fun k=>Au (f k)) (D+1) D = ofNat (Aj (fun k=>Au (f k)) D):=by simp [C9]
    cases hp:ieq (C9 (fun k=>Au (f k)) (D+1) D) (ofNat (Aj (fun k=>Au (f k)) n)) with
    | true =>
      have he:Aj (fun k=>Au (f k)) D = Aj (fun k=>Au (f k)) n:=by
        rw [hr] at hp
        have h7:((Aj (fun k=>Au (f k)) D:Nat):Int) = ((Aj (fun k=>Au (f k)) n:Nat):Int):=by simpa [ieq] using hp
        omega
      rw [show dn (D+1) = ofNat D from rfl,Ab (Ae9 L n f _ _ _ j (AJ D) hb1 hk hp),Aw,Pz (show D <= n by omega) hn,Cf,show toN (ofNat D) = D from rfl,KG]
      exact XQ L n f hn D (fun _=>.und) q (by omega) (by omega) fun k h3 h4=>by
        by_cases h5:k = D
        · subst h5; exact he
        · exact hb k (by omega) h4
    | false =>
      have he:Aj (fun k=>Au (f k)) D ≠ Aj (fun k=>Au (f k)) n:=fun e=>by rw [hr,e] at hp; simp [ieq] at hp
      rw [<- He (fun k=>Au (f k)) n (D+1) h (fun k hk e=>he (by have:=AY (fun k=>Au (f k)) (show k <= D by omega); have:=AY (fun k=>Au (f k)) (show D <= n by omega); omega)) hb]
      exact Ab (AeA L n f _ _ _ j (AJ D) hb1 hk hp)
def TE:List V->T (V × List Blk)
  | [v,.fn g []]=>apL v fun n f=>.br (BL 8 (ofNat n) (ofNat n)) (match Nat.beq g 83,Nat.beq g 84 with
    | true,_=>.leaf (.ref 0,[.row 3 1 n fun k=>iV (A0 (fun k=>Az (f k)) n k)])
    | false,true=>.leaf (.ref 0,[.row 3 1 n fun k=>iV (A0 (fun k=>Au (f k)) n k)])
    | false,false=>.fail) .fail
  | _=>.fail
theorem TA (p:Nat->Bool):C9 p 0 = fun _=>0:=by
  funext k
  simp [C9]
theorem Qc (p:Nat->Bool) (n:Nat) (h:Aj p n = 0):C9 p n = A0 p n:=by
  funext k
  unfold C9 A0
  by_cases h3:k < n
  · have:=AY p (show k <= n by omega)
    have h4:Aj p k = 0:=by omega
    simp [h3,h,h4]
  · simp [h3]
theorem Aad (n:Nat) (f:Nat->E6) (hm:BL 8 (ofNat n) (ofNat n) = true) :
    (A1 (Al tab (AR Gl tbY [(0,LP n f),(2,FQ n f)]) Try.f87 [A2 n f,.fn 83 []] [])).sem = some (.ref 0,[.row 3 1 n fun k=>iV (A0 (fun k=>Az (f k)) n k)]):=by
  have hn:n <= 4611686018427387904:=by
    simp only [BL,Bool.and_eq_true,decide_eq_true_eq] at hm
    have:=hm.2.2.1
    simp only [Int.ofNat_eq_natCast] at this
    omega
  have hL:=AC [(0,LP n f),(2,FQ n f)]
  have h0:=fun L j=>T3 L n f hn n 0 j (n+1) (by omega) (by omega)
  have h2:=fun L j=>XP L n f hn n j (n+1) (Nat.le_refl _) (by omega) (fun k h1 h2=>by omega)
  rw [TA] at h0
  rw [<- Pz (Nat.le_refl n) hn] at h2
  cases hs:ilt 0 (ofNat (Aj (fun k=>Az (f k)) n)) with
  | true=>exact A6 (Ax (Ax hL hL) hL) _ (AcB _ _ _ n f _ 0 n (C9 (fun k=>Az (f k)) n) (A0 (fun k=>Az (f k)) n) hm hs (Ak (h0 _ _)) (Ak (h2 _ _)))
  | false =>
    rw [<- Qc (fun k=>Az (f k)) n (by simpa [ilt] using hs)]
    exact A6 (Ax hL hL) _ (AcA _ _ n f _ n _ hm hs (Ak (h0 _ _)))
theorem Aae (n:Nat) (f:Nat->E6) (hm:BL 8 (ofNat n) (ofNat n) = true) :
    (A1 (Al tab (AR Gl tbY [(0,LQ n f),(2,FR n f)]) Try.f87 [A2 n f,.fn 84 []] [])).sem = some (.ref 0,[.row 3 1 n fun k=>iV (A0 (fun k=>Au (f k)) n k)]):=by
  have hn:n <= 4611686018427387904:=by
    simp only [BL,Bool.and_eq_true,decide_eq_true_eq] at hm
    have:=hm.2.2.1
    simp only [Int.ofNat_eq_natCast] at this
    omega
  have hL:=AC [(0,LQ n f),(2,FR n f)]
  have h0:=fun L j=>T4 L n f hn n 0 j (n+1) (by omega) (by omega)
  have h2:=fun L j=>XQ L n f hn n j (n+1) (Nat.le_refl _) (by omega) (fun k h1 h2=>by omega)
  rw [TA] at h0
  rw [<- Pz (Nat.le_refl n) hn] at h2
  cases hs:ilt 0 (ofNat (Aj (fun k=>Au (f k)) n)) with
  | true=>exact A6 (Ax (Ax hL hL) hL) _ (AcD _ _ _ n f _ 0 n (C9 (fun k=>Au (f k)) n) (A0 (fun k=>Au (f k)) n) hm hs (Ak (h0 _ _)) (Ak (h2 _ _)))
  | false =>
    rw [<- Qc (fun k=>Au (f k)) n (by simpa [ilt] using hs)]
    exact A6 (Ax hL hL) _ (AcC _ _ n f _ n _ hm hs (Ak (h0 _ _)))
theorem p92:AD Try.prog Gl 87 TE:=by
  refine A5 AO AP Try.func87 (by kernel_rfl) (by kernel_rfl) fun vs v h' h=>?_
  unfold TE at h
  split at h
  · rename_i u g
    obtain ⟨n,f,ha,h1⟩:=BU h
    obtain ⟨hm,hq⟩:=Ag h1
    clear h h1
    have hA:BA [u,.fn g []] [A2 n f,.fn g []]:=fun S w cs hv=>by
      obtain ⟨c,l,rfl,q1,q2⟩:=hv
      exact ⟨c,l,rfl,ha S w c q1,q2⟩
    split at hq
    · rename_i h1
      have h1:=Nat.eq_of_beq_eq_true h1
      subst h1
      have:=Ac hq
      simp only [Prod.mk.injEq] at this
      obtain ⟨rfl,rfl⟩:=this
      have hx:=AQ MC [(0,LP n f),(2,FQ n f)]
      exact ⟨_,AR Gl tbY [(0,LP n f),(2,FQ n f)],_,hA,rfl,hx.1,hx.2,Aad n f hm,AB.refl _⟩
    · rename_i h1
      have h1:=Nat.eq_of_beq_eq_true h1
      subst h1
      have:=Ac hq
      simp only [Prod.mk.injEq] at this
      obtain ⟨rfl,rfl⟩:=this
      have hx:=AQ MC [(0,LQ n f),(2,FR n f)]
      exact ⟨_,AR Gl tbY [(0,LQ n f),(2,FR n f)],_,hA,rfl,hx.1,hx.2,Aae n f hm,AB.refl _⟩
    · cases hq
  · cases h
end Go.Proofs.Ytjhnfomefcngfaa.Ed
namespace Go.Proofs.Ytjhnfomefcngfaa.Ed
open Go.Sy
end Go.Proofs.Ytjhnfomefcngfaa.Ed
namespace Go.Proofs.Ytjhnfomefcngfaa.Ed
open Go.Sy
def okI (v:V):Bool:=match gI v with
  | some _=>true
  | none=>false
def edI (v:V):Int:=match gI v with
  | some e=>e
  | none=>0
theorem Kc {v:V} (h:okI v = true):v = iV (edI v):=by
  unfold okI at h
  unfold edI
  split at h
  · rename_i e he
    exact FU he
  · cases h
def DW (n:Nat) (f:Nat->Int):V:=.sl 1 n fun i=>iV (f i)
def AbH:V->Option (Nat × (Nat->V))
  | .sl s n g=>match Nat.beq s 1 with
    | true=>some (n,g)
    | false=>none
  | _=>none
def apI {α:Type} (v:V) (F:Nat->(Nat->Int)->T α):T α :=
  match AbH v with
  | some (n,g)=>.br (An n fun i=>okI (g i)) (F n fun i=>edI (g i)) .fail
  | none=>.fail
theorem FA {α:Type} {v:V} {F:Nat->(Nat->Int)->T α} {r:α} (h:(apI v F).sem = some r) :
    ∃ n f,(∀ (S:Nat->Prop) (w:World) (c:Value),VR S w v noK c->VR S w (DW n f) noK c) ∧ (F n f).sem = some r:=by
  unfold apI at h
  split at h
  · rename_i n g hg
    obtain ⟨h1,h2⟩:=Ag h
    have h1:=AA.1 h1
    refine ⟨n,_,fun S w c hv=>?_,h2⟩
    unfold AbH at hg
    split at hg
    · rename_i s n' g'
      split at hg
      · rename_i hs
        simp only [Option.some.injEq,Prod.mk.injEq] at hg
        obtain ⟨rfl,rfl⟩:=hg
        have hs:s = 1:=Nat.eq_of_beq_eq_true hs
        subst hs
        obtain ⟨a,cap,e,hc,hb⟩:=hv
        refine ⟨a,cap,e,hc,hb.imp id ?_⟩
        rintro ⟨b,o,ea,hel⟩
        refine ⟨b,o,ea,fun i hi=>?_⟩
        have:=hel i hi
        rw [Kc (h1 i hi)] at this
        exact this
      · cases hg
    · cases hg
  · cases h
def AbO (F:Nat->(Nat->Int)->T (V × List Blk)):List V->T (V × List Blk)
  | [v]=>apI v F
  | _=>.fail
theorem P9 {F:Nat->(Nat->Int)->T (V × List Blk)} {vs:List V} {r:V × List Blk} (h:(AbO F vs).sem = some r):∃ n f,BA vs [DW n f] ∧ (F n f).sem = some r:=by
  unfold AbO at h
  split at h
  · obtain ⟨n,f,h1,h2⟩:=FA h
    refine ⟨n,f,fun S w cs hv=>?_,h2⟩
    obtain ⟨c,l,rfl,q1,q2⟩:=hv
    exact ⟨c,l,rfl,h1 S w c q1,q2⟩
  · cases h
def okB (v:V):Bool:=match gB v with
  | some _=>true
  | none=>false
def edB (v:V):Bool:=match gB v with
  | some e=>e
  | none=>false
theorem Yz {v:V} (h:okB v = true):v = bV (edB v):=by
  unfold okB at h
  unfold edB
  split at h
  · rename_i e he
    exact Qy he
  · cases h
def Us (n:Nat) (f:Nat->Bool):V:=.sl 1 n fun i=>bV (f i)
def apB {α:Type} (v:V) (F:Nat->(Nat->Bool)->T α):T α :=
  match AbH v with
  | some (n,g)=>.br (An n fun i=>okB (g i)) (F n fun i=>edB (g i)) .fail
  | none=>.fail
theorem ZR {α:Type} {v:V} {F:Nat->(Nat->Bool)->T α} {r:α} (h:(apB v F).sem = some r) :
    ∃ n f,(∀ (S:Nat->Prop) (w:World) (c:Value),VR S w v noK c->VR S w (Us n f) noK c) ∧ (F n f).sem = some r:=by
  unfold apB at h
  split at h
  · rename_i n g hg
    obtain ⟨h1,h2⟩:=Ag h
    have h1:=AA.1 h1
    refine ⟨n,_,fun S w c hv=>?_,h2⟩
    unfold AbH at hg
    split at hg
    · rename_i s n' g'
      split at hg
      · rename_i hs
        simp only [Option.some.injEq,Prod.mk.injEq] at hg
        obtain ⟨rfl,rfl⟩:=hg
        have hs:s = 1:=Nat.eq_of_beq_eq_true hs
        subst hs
        obtain ⟨a,cap,e,hc,hb⟩:=hv
        refine ⟨a,cap,e,hc,hb.imp id ?_⟩
        rintro ⟨b,o,ea,hel⟩
        refine ⟨b,o,ea,fun i hi=>?_⟩
        have:=hel i hi
        rw [Yz (h1 i hi)] at this
        exact this
      · cases hg
    · cases hg
  · cases h
theorem Agf {α:Type} (n:Nat) (f:Nat->E6) (F:Nat->(Nat->E6)->T α):(apL (A2 n f) F).sem = (F n f).sem:=by
  show sel (An n fun i=>okE (eV (f i))) (F n f).sem none = _
  rw [AbP]
  rfl
end Go.Proofs.Ytjhnfomefcngfaa.Ed
