/-
  Layer 7: the program's numbers of threads and of locations (met) are the document's parts. No conditions.
-/
import Derived.Test.YthlojajaenfidaaGreatDoorShA
import Derived.Test.YthlojajaenfidaaGreatDoorCyQ
import Derived.Test.YthlojajaenfidaaGreatDoorCyR
namespace Go.Proofs.YthlojajaenfidaaGreatDoor.Sh
open Go.Sy Ed
open Int (ofNat)
noncomputable def tb53:List (Nat × (List V->T (V × List Blk))):=(13,BE λe=>bV (Ax e)) :: (15,BE λe=>bV (Aw e)) :: (39,Vj) :: []
theorem tb53_ok:A8 Tryz.prog Gl tb53:=.cons p52 <| .cons p54 <| .cons p92 .nil
theorem Bs {a n:Nat} (h:a < 2 * n):a % n = if a < n then a else a - n:=by
 split
 ·rename_i h1; exact Nat.mod_eq_of_lt h1
 ·rename_i h1
  have h1:n <= a:=Nat.le_of_not_lt h1
  rw [Nat.mod_eq_sub_mod h1,Nat.mod_eq_of_lt (by omega)]
theorem AhX {n z b:Nat} (hz:z < n) (hb:b < n):posN n z ((z+b) % n) = b:=by
 unfold posN
 rw [Bs (a:=z+b) (by omega)]
 split
 ·rw [Bs (by omega)]; split <;> omega
 ·rw [Bs (by omega)]; split <;> omega
theorem AcX {n z i:Nat} (hz:z < n) (hi:i < n):(z+posN n z i) % n = i:=by
 unfold posN
 rw [Bs (a:=i+(n - z)) (by omega)]
 split
 ·rw [Bs (by omega)]; split <;> omega
 ·rw [Bs (by omega)]; split <;> omega
theorem Qj {n z b:Nat} (hz:z < n) (hb:b < n):((z+(b+1)) % n+(n - 1)) % n = (z+b) % n:=by
 rcases Nat.lt_or_ge (b+1) n with h | h
 ·rw [Bs (a:=z+(b+1)) (by omega),Bs (a:=z+b) (by omega)]
  split <;> split <;> (rw [Bs (by omega)]; split <;> omega)
 ·have:b+1 = n:=by omega
  rw [this,Nat.add_mod_right,Nat.mod_eq_of_lt hz]
  rw [Bs (by omega),Bs (a:=z+b) (by omega)]
  split <;> split <;> omega
theorem F3 {n:Nat} (h:0 < n):ieq (ofNat n) 0 = false:=by
 simp [ieq]
 omega
theorem Ja {a n:Nat} (hn:0 < n) (h:a+n <= 9223372036854775807):Ae (wr .i64 (Az (wr .i64 (Af (ofNat a) (ofNat n))) 1)) (ofNat n) = ofNat ((a+(n - 1)) % n):=by
 rw [Dm h]
 have:wr .i64 (Az (ofNat (a+n)) 1) = ofNat (a+(n - 1)):=by
  have:ofNat (a+n) = ofNat (a+(n - 1)+1):=by congr 1; omega
  rw [this]
  unfold wr Az IntKind.wrap
  simp [IntKind.bits,IntKind.signed]
  omega
 rw [this,Cu]
def Cb (p:Nat->Bool) (n:Nat):Nat:=match (List.range n).find? λi=>p ((i+(n - 1)) % n) with
 | some z=>z
 | none=>0
theorem TM {p:Nat->Bool} {n i:Nat} (hi:i < n) (h:p ((i+(n - 1)) % n) = true) (hb:∀ k,k < i->p ((k+(n - 1)) % n) = false):Cb p n = i:=by
 unfold Cb
 have:(List.range n).find? (λi=>p ((i+(n - 1)) % n)) = some i:=by
  rw [List.find?_range_eq_some]
  exact ⟨h,by simpa using hi,λj hj=>by rw [hb j hj]; rfl⟩
 rw [this]
theorem OI {p:Nat->Bool} {n:Nat} (hb:∀ k,k < n->p ((k+(n - 1)) % n) = false):Cb p n = 0:=by
 unfold Cb
 have:(List.range n).find? (λi=>p ((i+(n - 1)) % n)) = none:=by
  rw [List.find?_eq_none]
  intro k hk
  rw [hb k (by simpa using hk)]
  simp
 rw [this]
theorem OH (p:Nat->Bool) {n:Nat} (hn:0 < n):Begin p n (Cb p n):=by
 cases h:(List.range n).find? (λi=>p ((i+(n - 1)) % n)) with
 | none =>
  have hz:Cb p n = 0:=by unfold Cb; rw [h]
  rw [hz]
  rw [List.find?_eq_none] at h
  refine .none λk hk=>?_
  have:=h ((k+1) % n) (by simpa using Nat.mod_lt _ hn)
  rw [show ((k+1) % n+(n - 1)) % n = k by
   rw [Bs (a:=k+1) (by omega)]
   split <;> (rw [Bs (by omega)]; split <;> omega)] at this
  simpa using this
 | some z =>
  have hz:Cb p n = z:=by unfold Cb; rw [h]
  rw [hz]
  rw [List.find?_range_eq_some] at h
  obtain ⟨h1,h2,h3⟩:=h
  have h2:z < n:=by simpa using h2
  have at':∀ k,0 < k->k < n->(k+(n - 1)) % n = k - 1:=λk h0 hk=>by
   rw [Bs (by omega)]; split <;> omega
  have at0:(0+(n - 1)) % n = n - 1:=by rw [Nat.zero_add,Nat.mod_eq_of_lt (by omega)]
  rcases Nat.eq_zero_or_pos z with h0 | h0
  ·subst h0
   rw [at0] at h1
   exact .last hn h1
  ·rw [at' z h0 h2] at h1
   refine .first h0 h2 h1 (λk hk=>?_) ?_
   ·have:=h3 (k+1) (by omega)
    rw [at' (k+1) (by omega) (by omega)] at this
    simpa using this
   ·have:=h3 0 h0
    rw [at0] at this
    simpa using this
theorem TL (p:Nat->Bool) {n:Nat} (hn:0 < n):Cb p n < n:=by
 have h:=OH p hn
 generalize Cb p n = z at h
 cases h with
 | none _=>exact hn
 | last _ _=>exact hn
 | first _ h _ _ _=>exact h
def gN (p:Nat->Bool) (n z b i:Nat):Int:=if i < n ∧ posN n z i < b then ofNat (Aj (DH p n z) (posN n z i)) else 0
theorem Alx (p:Nat->Bool) (n z:Nat):gN p n z 0 = λ_=>0:=by
 funext i
 simp [gN]
theorem MN {p:Nat->Bool} {n z b:Nat} (hz:z < n) (hb:b < n):Na (gN p n z b) ((z+b) % n) (ofNat (Aj (DH p n z) b)) = gN p n z (b+1):=by
 funext i
 unfold Na
 by_cases hi:i = (z+b) % n
 ·subst hi
  rw [show decide ((z+b) % n = (z+b) % n) = true by simp]
  simp only [cond_true]
  unfold gN
  rw [AhX hz hb,if_pos ⟨Nat.mod_lt _ (by omega),by omega⟩]
 ·rw [show decide (i = (z+b) % n) = false by simpa using hi]
  simp only [cond_false]
  unfold gN
  by_cases hin:i < n
  ·have hp:posN n z i ≠ b:=λhe=>hi (by rw [<- he,AcX hz hin])
   by_cases h1:posN n z i < b
   ·rw [if_pos ⟨hin,h1⟩,if_pos ⟨hin,by omega⟩]
   ·rw [if_neg (λh=>h1 h.2),if_neg (λh=>by have:=h.2; omega)]
  ·rw [if_neg (λh=>hin h.1),if_neg (λh=>hin h.1)]
theorem AaT {p:Nat->Bool} {n z i:Nat} (hb:Begin p n z) (hi:i < n):gN p n z n i = ofNat (snN p n z (AU p n i)):=by
 unfold gN
 rw [if_pos ⟨hi,show (i+(n - z)) % n < n from Nat.mod_lt _ (by omega)⟩,AcY hb hi]
def Ew (p:Nat->Bool) (n z b i:Nat):Int:=if i < rN p n b then ofNat (snN p n z i) else 0
def UQ (p:Nat->Bool) (n b i:Nat):Int:=if i < b then Ay p n i else 0
theorem Aaf (p:Nat->Bool) (n:Nat):UQ p n n = Ay p n:=by
 funext i
 unfold UQ
 split
 ·rfl
 ·rename_i h
  unfold Ay
  rw [show decide (i < n) = false by simpa using h]
  rfl
theorem IC {p:Nat->Bool} {n b:Nat} (hb:b < n):Na (UQ p n b) b (ofNat (AU p n b)) = UQ p n (b+1):=by
 funext i
 unfold Na UQ
 by_cases hi:i = b
 ·subst hi
  rw [if_pos (Nat.lt_succ_self i),FL hb]
  simp
 ·rw [show decide (i = b) = false by simpa using hi]
  simp only [cond_false]
  by_cases h1:i < b
  ·rw [if_pos h1,if_pos (by omega)]
  ·rw [if_neg h1,if_neg (by omega)]
theorem N0 {p:Nat->Bool} {n z b:Nat} (h:AU p n b < rN p n b):Ew p n z (b+1) = Ew p n z b ∧ rN p n (b+1) = rN p n b:=by
 have:rN p n (b+1) = rN p n b:=by rw [rN,if_pos h]
 exact ⟨by funext i; unfold Ew; rw [this],this⟩
theorem Pv {p:Nat->Bool} {n z b:Nat} (h:AU p n b = rN p n b):A2 (rN p n b) (λi=>iV (Ew p n z b i)) (iV (ofNat (snN p n z (AU p n b)))) = (λi=>iV (Ew p n z (b+1) i)) ∧ rN p n (b+1) = rN p n b+1:=by
 have hr:rN p n (b+1) = rN p n b+1:=by rw [rN,if_neg (by omega)]
 refine ⟨?_,hr⟩
 funext k
 rw [Bl,show Nat.beq k (rN p n b) = decide (k = rN p n b) by rw [Bool.eq_iff_iff]; simp]
 unfold Ew
 rw [hr]
 by_cases hk:k = rN p n b
 ·rw [hk,h]; simp
 ·by_cases h2:k < rN p n b
  ·have:k < rN p n b+1:=by omega
   simp [hk,h2,this]
  ·have:¬ k < rN p n b+1:=by omega
   simp [hk,h2,this]
theorem Sr {p:Nat->Bool} {n z b:Nat} (hb:b < n) (h:AU p n b < rN p n b):JA (rN p n b) (Ew p n z b) (ofNat (snN p n z (AU p n b))) = ofNat (AU p n b):=by
 refine PL h ?_ λk hk=>?_
 ·unfold Ew
  rw [if_pos h]
  simp [ieq]
 ·unfold Ew
  rw [if_pos (by omega)]
  have:=Ae5 p n b (by omega) _ h
  cases he:ieq (ofNat (snN p n z (AU p n b))) (ofNat (snN p n z k)) with
  | false=>rfl
  | true =>
   have he:=Int.ofNat.inj ((beq_iff_eq (α:=Int)).1 he)
   have:=Zv (p:=p) (n:=n) (z:=z) (Nat.le_of_lt hk) this he.symm
   omega
theorem Ss {p:Nat->Bool} {n z b:Nat} (hb:b < n) (h:AU p n b = rN p n b):JA (rN p n b) (Ew p n z b) (ofNat (snN p n z (AU p n b))) = -1:=by
 refine Tj λk hk=>?_
 unfold Ew
 rw [if_pos hk]
 cases he:ieq (ofNat (snN p n z (AU p n b))) (ofNat (snN p n z k)) with
 | false=>rfl
 | true =>
  have he:=Int.ofNat.inj ((beq_iff_eq (α:=Int)).1 he)
  have:=Zv (p:=p) (n:=n) (z:=z) (show k <= AU p n b by omega) (NF (by omega)) he.symm
  omega
def PD (n:Nat) (f:Nat->E6):Lp:=⟨(bmK 97 0 [0,1,4,5,6,18,19]),1,bmK 97 0 [0,1,4,5,6],1,n+1⟩
def Sk (n:Nat) (f:Nat->E6) (b:Nat) (j:Nat->V):St:=⟨(jsV 97 0 j [(0,.sl 6 n λi=>eV (f i)),(1,.fn 13 []),(4,.ref 0),(5,nV n),(6,iV 0),(18,nV n),(19,nV b)]),[.row 3 1 0 (λ_=>.und)]⟩
def O5 (n:Nat) (f:Nat->E6) (b:Nat):Ex × St:=(.ex 0,⟨(jsV 97 0 (λ_=>.und) [(0,.sl 6 n λi=>eV (f i)),(1,.fn 13 []),(4,.ref 0),(5,nV n),(6,nV b)]),[.row 3 1 0 (λ_=>.und)]⟩)
noncomputable def Lc (L:LT):St->T (Ex × St):=λst=>AD tab ⟨Ak tb53,L,Gl⟩ (As Tryz.f14 0) 0 st
section
variable (L:LT) (n:Nat) (f:Nat->E6) (b:Nat)  (j:Nat->V)
include L n f b j
theorem Ag9 (h0:ilt (ofNat b) (ofNat n) = true) (h1:ieq (ofNat n) 0 = false) (h13:Al (ile 0 (Ae (wr .i64 (Az (wr .i64 (Af (ofNat b) (ofNat n))) 1)) (ofNat n))) (ilt (Ae (wr .i64 (Az (wr .i64 (Af (ofNat b) (ofNat n))) 1)) (ofNat n)) (ofNat n)) = true) (h2:Ax (f (toN (Ae (wr .i64 (Az (wr .i64 (Af (ofNat b) (ofNat n))) 1)) (ofNat n)))) = false):Ag (Lc L) (PD n f) (Sk n f b j) = some (.nm,⟨(jsV 97 0 (λ_=>.und) [(0,(.sl 6 n (λi=>(eV (f i))))),(1,(.fn 13 [])),(4,(.ref 0)),(5,(nV n)),(6,(iV 0)),(18,(nV n)),(19,(iV (wr .i64 (Af (ofNat b) 1))))]),[r3Z]⟩):=by
 exact Aa (ks:=[kn h0,kn h1,kn h13,kn h2]) (by kernel_rfl)
theorem Ag7 (h0:ilt (ofNat b) (ofNat n) = true) (h1:ieq (ofNat n) 0 = false) (h13:Al (ile 0 (Ae (wr .i64 (Az (wr .i64 (Af (ofNat b) (ofNat n))) 1)) (ofNat n))) (ilt (Ae (wr .i64 (Az (wr .i64 (Af (ofNat b) (ofNat n))) 1)) (ofNat n)) (ofNat n)) = true) (h2:Ax (f (toN (Ae (wr .i64 (Az (wr .i64 (Af (ofNat b) (ofNat n))) 1)) (ofNat n)))) = true):Ag (Lc L) (PD n f) (Sk n f b j) = some ((.ex 0),⟨(jsV 97 0 (λ_=>.und) [(0,(.sl 6 n (λi=>(eV (f i))))),(1,(.fn 13 [])),(4,(.ref 0)),(5,(nV n)),(6,(nV b))]),[r3Z]⟩):=by
 exact Aa (ks:=[kn h0,kn h1,kn h13,kn h2]) (by kernel_rfl)
theorem AgB (h0:ilt (ofNat b) (ofNat n) = false):Ag (Lc L) (PD n f) (Sk n f b j) = some ((.ex 0),⟨(jsV 97 0 (λ_=>.und) [(0,(.sl 6 n (λi=>(eV (f i))))),(1,(.fn 13 [])),(4,(.ref 0)),(5,(nV n)),(6,(iV 0))]),[r3Z]⟩):=by
 exact Aa (ks:=[kn h0]) (by kernel_rfl)
end
def Alq (n:Nat) (f:Nat->E6) :Nat->V:=lkV A7 [(16,(.sl 6 n (λi=>eV (f i)))),(17,(nV n))]
def Hh (n:Nat) (f:Nat->E6):Lp:=⟨(bmK 97 0 [0,1,4,5,6,8,9,37,38]),2,bmK 97 0 [0,1,4,5,8],2,n+1⟩
def I1 (n:Nat) (f:Nat->E6) (z b k:Nat) (g:Nat->Int) (j:Nat->V):St:=⟨(jsV 97 0 j [(0,.sl 6 n λi=>eV (f i)),(1,.fn 13 []),(4,.ref 0),(5,nV n),(6,nV z),(8,.ref 1),(9,nV k),(37,nV n),(38,nV b)]),[.row 3 1 0 (λ_=>.und),.row 3 1 n (λi=>iV (g i))]⟩
def If (n:Nat) (f:Nat->E6) (z b k:Nat) (g:Nat->Int):Ex × St:=(.ex 2,⟨(jsV 97 0 (λ_=>.und) [(0,.sl 6 n λi=>eV (f i)),(1,.fn 13 []),(4,.ref 0),(5,nV n),(8,.ref 1)]),[.row 3 1 0 (λ_=>.und),.row 3 1 n (λi=>iV (g i))]⟩)
noncomputable def Fp (L:LT):St->T (Ex × St):=λst=>AD tab ⟨Ak tb53,L,Gl⟩ (As Tryz.f14 2) 2 st
section
variable (L:LT) (n:Nat) (f:Nat->E6) (z b k:Nat) (g:Nat->Int)  (j:Nat->V)
include L n f z b k g j
theorem Agy (h0:ilt (ofNat b) (ofNat n) = true) (h1:ieq (ofNat n) 0 = false) (h2:ilt 0 (ofNat b) = false) (h13:Al (ile 0 (Ae (wr .i64 (Af (ofNat z) (ofNat b))) (ofNat n))) (ilt (Ae (wr .i64 (Af (ofNat z) (ofNat b))) (ofNat n)) (ofNat n)) = true) (h14:nlt (toN (Ae (wr .i64 (Af (ofNat z) (ofNat b))) (ofNat n))) n = true):Ag (Fp L) (Hh n f) (I1 n f z b k g j) = some (.nm,⟨(jsV 97 0 (λ_=>.und) [(0,(.sl 6 n (λi=>(eV (f i))))),(1,(.fn 13 [])),(4,(.ref 0)),(5,(nV n)),(6,(nV z)),(8,(.ref 1)),(9,(nV k)),(37,(nV n)),(38,(iV (wr .i64 (Af (ofNat b) 1))))]),[r3Z,(.row 3 1 n (Br (λi=>(iV (g i))) (toN (Ae (wr .i64 (Af (ofNat z) (ofNat b))) (ofNat n))) (nV k)))]⟩):=by
 exact Aa (ks:=[kn h0,kn h1,kn h2,kn h2,kn h2,kn h2,kn h2,kn h2,kn h2,kn h2,kn h2,kn h2,kn h2,kn h2,kF,kn h13,kn h14]) (by kernel_rfl)
theorem Ag2 (h0:ilt (ofNat b) (ofNat n) = true) (h1:ieq (ofNat n) 0 = false) (h2:ilt 0 (ofNat b) = true) (h14:Al (ile 0 (Ae (wr .i64 (Az (wr .i64 (Af (Ae (wr .i64 (Af (ofNat z) (ofNat b))) (ofNat n)) (ofNat n))) 1)) (ofNat n))) (ilt (Ae (wr .i64 (Az (wr .i64 (Af (Ae (wr .i64 (Af (ofNat z) (ofNat b))) (ofNat n)) (ofNat n))) 1)) (ofNat n)) (ofNat n)) = true) (h3:Ax (f (toN (Ae (wr .i64 (Az (wr .i64 (Af (Ae (wr .i64 (Af (ofNat z) (ofNat b))) (ofNat n)) (ofNat n))) 1)) (ofNat n)))) = false) (h16:Al (ile 0 (Ae (wr .i64 (Af (ofNat z) (ofNat b))) (ofNat n))) (ilt (Ae (wr .i64 (Af (ofNat z) (ofNat b))) (ofNat n)) (ofNat n)) = true) (h17:nlt (toN (Ae (wr .i64 (Af (ofNat z) (ofNat b))) (ofNat n))) n = true):Ag (Fp L) (Hh n f) (I1 n f z b k g j) = some (.nm,⟨(jsV 97 0 (λ_=>.und) [(0,(.sl 6 n (λi=>(eV (f i))))),(1,(.fn 13 [])),(4,(.ref 0)),(5,(nV n)),(6,(nV z)),(8,(.ref 1)),(9,(nV k)),(37,(nV n)),(38,(iV (wr .i64 (Af (ofNat b) 1))))]),[r3Z,(.row 3 1 n (Br (λi=>(iV (g i))) (toN (Ae (wr .i64 (Af (ofNat z) (ofNat b))) (ofNat n))) (nV k)))]⟩):=by
 exact Aa (ks:=[kn h0,kn h1,kn h2,kn h2,kn h2,kn h2,kn h2,kn h2,kn h2,kn h2,kn h1,kn h2,kn h14,kn h2,kn h2,kn h2,kn h3,kn h16,kn h17]) (by kernel_rfl)
theorem Ag0 (h0:ilt (ofNat b) (ofNat n) = true) (h1:ieq (ofNat n) 0 = false) (h2:ilt 0 (ofNat b) = true) (h14:Al (ile 0 (Ae (wr .i64 (Az (wr .i64 (Af (Ae (wr .i64 (Af (ofNat z) (ofNat b))) (ofNat n)) (ofNat n))) 1)) (ofNat n))) (ilt (Ae (wr .i64 (Az (wr .i64 (Af (Ae (wr .i64 (Af (ofNat z) (ofNat b))) (ofNat n)) (ofNat n))) 1)) (ofNat n)) (ofNat n)) = true) (h3:Ax (f (toN (Ae (wr .i64 (Az (wr .i64 (Af (Ae (wr .i64 (Af (ofNat z) (ofNat b))) (ofNat n)) (ofNat n))) 1)) (ofNat n)))) = true) (h16:Al (ile 0 (Ae (wr .i64 (Af (ofNat z) (ofNat b))) (ofNat n))) (ilt (Ae (wr .i64 (Af (ofNat z) (ofNat b))) (ofNat n)) (ofNat n)) = true) (h17:nlt (toN (Ae (wr .i64 (Af (ofNat z) (ofNat b))) (ofNat n))) n = true):Ag (Fp L) (Hh n f) (I1 n f z b k g j) = some (.nm,⟨(jsV 97 0 (λ_=>.und) [(0,(.sl 6 n (λi=>(eV (f i))))),(1,(.fn 13 [])),(4,(.ref 0)),(5,(nV n)),(6,(nV z)),(8,(.ref 1)),(9,(iV (wr .i64 (Af (ofNat k) 1)))),(37,(nV n)),(38,(iV (wr .i64 (Af (ofNat b) 1))))]),[r3Z,(.row 3 1 n (Br (λi=>(iV (g i))) (toN (Ae (wr .i64 (Af (ofNat z) (ofNat b))) (ofNat n))) (iV (wr .i64 (Af (ofNat k) 1)))))]⟩):=by
 exact Aa (ks:=[kn h0,kn h1,kn h2,kn h2,kn h2,kn h2,kn h2,kn h2,kn h2,kn h2,kn h1,kn h2,kn h14,kn h2,kn h2,kn h2,kn h3,kn h16,kn h17]) (by kernel_rfl)
theorem Ag4 (h0:ilt (ofNat b) (ofNat n) = false):Ag (Fp L) (Hh n f) (I1 n f z b k g j) = some ((.ex 2),⟨(jsV 97 0 (λ_=>.und) [(0,(.sl 6 n (λi=>(eV (f i))))),(1,(.fn 13 [])),(4,(.ref 0)),(5,(nV n)),(8,(.ref 1))]),[r3Z,(.row 3 1 n (λi=>(iV (g i))))]⟩):=by
 exact Aa (ks:=[kn h0]) (by kernel_rfl)
end
def Aby (n:Nat) (f:Nat->E6) (z:Nat):St:=⟨(jsV 97 0 (λ_=>.und) [(0,(.sl 6 n (λi=>eV (f i)))),(1,(.fn 13 [])),(4,(.ref 0)),(5,(nV n)),(6,(nV z)),(8,(.ref 1)),(9,(iV 0)),(35,(nV n)),(36,(.ref 1)),(37,(nV n)),(38,(iV 0))]),[r3Z,.row 3 1 n (λ_=>iV 0)]⟩
def IG (n:Nat) (f:Nat->E6):Lp:=⟨(bmK 97 0 [4,8,12,13,70,71]),4,bmK 97 0 [13],4,n+1⟩
def Ka (n:Nat) (f:Nat->E6) (b r:Nat) (g s o:Nat->Int) (j:Nat->V):St:=⟨(jsV 97 0 j [(4,.ref 0),(8,.ref 1),(12,.ref 2),(13,.ref 3),(70,nV n),(71,nV b)]),[.row 3 1 0 (λ_=>.und),.row 3 1 n (λi=>iV (g i)),.row 3 1 r (λi=>iV (s i)),.row 3 1 n (λi=>iV (o i))]⟩
def Id (n:Nat) (f:Nat->E6) (b r:Nat) (g s o:Nat->Int):Ex × St:=(.ex 4,⟨(jsV 97 0 (λ_=>.und) [(13,.ref 3)]),[.row 3 1 0 (λ_=>.und),.row 3 1 n (λi=>iV (g i)),.row 3 1 r (λi=>iV (s i)),.row 3 1 n (λi=>iV (o i))]⟩)
noncomputable def GP (L:LT):St->T (Ex × St):=λst=>AD tab ⟨Ak tb53,L,Gl⟩ (As Tryz.f14 4) 4 st
section
variable (L:LT) (n:Nat) (f:Nat->E6) (b r:Nat) (g s o:Nat->Int)  (j:Nat->V)
include L n f b r g s o j
theorem Ags (h0:ilt (ofNat b) (ofNat n) = true) (h13:ile 0 (ofNat b) = true) (h1:nlt b n = true) (h2:Dv r = true) (h3:ilt (JA r s (g b)) 0 = false):Ag (GP L) (IG n f) (Ka n f b r g s o j) = some (.nm,⟨(jsV 97 0 (λ_=>.und) [(4,(.ref 0)),(8,(.ref 1)),(12,(.ref 2)),(13,(.ref 3)),(70,(nV n)),(71,(iV (wr .i64 (Af (ofNat b) 1))))]),[r3Z,(.row 3 1 n (λi=>(iV (g i)))),(.row 3 1 r (λi=>(iV (s i)))),(.row 3 1 n (Br (λi=>(iV (o i))) b (iV (JA r s (g b)))))]⟩):=by
 exact Aa (ks:=[kn h0,kA (kn h13) (kn h0),kn h1,kL r,kn h2,kn h3,kA (kn h13) (kn h0),kn h1]) (by kernel_rfl)
theorem Agu (h0:ilt (ofNat b) (ofNat n) = true) (h13:ile 0 (ofNat b) = true) (h1:nlt b n = true) (h2:Dv r = true) (h3:ilt (JA r s (g b)) 0 = true) (h14:Bx r 1 8 = true):Ag (GP L) (IG n f) (Ka n f b r g s o j) = some (.nm,⟨(jsV 97 0 (λ_=>.und) [(4,(.ref 0)),(8,(.ref 1)),(12,(.ref 2)),(13,(.ref 3)),(70,(nV n)),(71,(iV (wr .i64 (Af (ofNat b) 1))))]),[r3Z,(.row 3 1 n (λi=>(iV (g i)))),(.row 3 1 (Bd r 1) (A2 r (λi=>(iV (s i))) (iV (g b)))),(.row 3 1 n (Br (λi=>(iV (o i))) b (nV r)))]⟩):=by
 exact Aa (ks:=[kn h0,kA (kn h13) (kn h0),kn h1,kL r,kn h2,kn h3,kA (kn h13) (kn h0),kn h1,kn h14,kA (kn h13) (kn h0),kn h1]) (by kernel_rfl)
theorem Agw (h0:ilt (ofNat b) (ofNat n) = false):Ag (GP L) (IG n f) (Ka n f b r g s o j) = some ((.ex 4),⟨(jsV 97 0 (λ_=>.und) [(13,(.ref 3))]),[r3Z,(.row 3 1 n (λi=>(iV (g i)))),(.row 3 1 r (λi=>(iV (s i)))),(.row 3 1 n (λi=>(iV (o i))))]⟩):=by
 exact Aa (ks:=[kn h0]) (by kernel_rfl)
end
def Abd (n:Nat) (f:Nat->E6) (z:Nat) (g:Nat->Int):St:=⟨(jsV 97 0 (λ_=>.und) [(0,(.sl 6 n (λi=>eV (f i)))),(1,(.fn 13 [])),(4,(.ref 0)),(5,(nV n)),(8,(.ref 1)),(12,(.ref 2)),(13,(.ref 3)),(68,(nV n)),(69,(.ref 3)),(70,(nV n)),(71,(iV 0))]),[r3Z,.row 3 1 n (λi=>iV (g i)),r3Z,.row 3 1 n (λ_=>iV 0)]⟩
theorem AiM (L:LT) (p0:PT) (p2:PT) (p4:PT) (n:Nat) (f:Nat->E6) (z:Nat) (g:Nat->Int) (r:Nat) (gg ss o:Nat->Int) (h0:C5 8 (ofNat n) (ofNat n) = true) (hp0:p0 (Lc (onP 0 p0 (O5 n f z) (onP 2 p2 (If n f z 0 0 g) (onP 4 p4 (Id n f 0 r gg ss o) L)))) (Sk n f 0 (Alq n f )) = true) (hp2:p2 (Fp (onP 0 p0 (O5 n f z) (onP 2 p2 (If n f z 0 0 g) (onP 4 p4 (Id n f 0 r gg ss o) L)))) (Aby n f z) = true) (hp4:p4 (GP (onP 0 p0 (O5 n f z) (onP 2 p2 (If n f z 0 0 g) (onP 4 p4 (Id n f 0 r gg ss o) L)))) (Abd n f z g) = true):(Au (Ah tab ⟨Ak tb53,(onP 0 p0 (O5 n f z) (onP 2 p2 (If n f z 0 0 g) (onP 4 p4 (Id n f 0 r gg ss o) L))),Gl⟩ Tryz.f14 [.sl 6 n λi=>eV (f i),.fn 13 []] [])).sem = some ((.ref 0),[(.row 3 1 n (λi=>(iV (o i))))]):=by
 exact Aa (ks:=[kn hp0,kn h0,kn hp2,kn h0,kn hp4]) (by kernel_rfl)
def PC (n:Nat) (f:Nat->E6):Lp:=⟨(bmK 97 0 [0,1,4,5,6,18,19]),1,bmK 97 0 [0,1,4,5,6],1,n+1⟩
def Sj (n:Nat) (f:Nat->E6) (b:Nat) (j:Nat->V):St:=⟨(jsV 97 0 j [(0,.sl 6 n λi=>eV (f i)),(1,.fn 15 []),(4,.ref 0),(5,nV n),(6,iV 0),(18,nV n),(19,nV b)]),[.row 3 1 0 (λ_=>.und)]⟩
def O4 (n:Nat) (f:Nat->E6) (b:Nat):Ex × St:=(.ex 0,⟨(jsV 97 0 (λ_=>.und) [(0,.sl 6 n λi=>eV (f i)),(1,.fn 15 []),(4,.ref 0),(5,nV n),(6,nV b)]),[.row 3 1 0 (λ_=>.und)]⟩)
noncomputable def Lb (L:LT):St->T (Ex × St):=λst=>AD tab ⟨Ak tb53,L,Gl⟩ (As Tryz.f14 0) 0 st
section
variable (L:LT) (n:Nat) (f:Nat->E6) (b:Nat)  (j:Nat->V)
include L n f b j
theorem Ag8 (h0:ilt (ofNat b) (ofNat n) = true) (h1:ieq (ofNat n) 0 = false) (h13:Al (ile 0 (Ae (wr .i64 (Az (wr .i64 (Af (ofNat b) (ofNat n))) 1)) (ofNat n))) (ilt (Ae (wr .i64 (Az (wr .i64 (Af (ofNat b) (ofNat n))) 1)) (ofNat n)) (ofNat n)) = true) (h2:Aw (f (toN (Ae (wr .i64 (Az (wr .i64 (Af (ofNat b) (ofNat n))) 1)) (ofNat n)))) = false):Ag (Lb L) (PC n f) (Sj n f b j) = some (.nm,⟨(jsV 97 0 (λ_=>.und) [(0,(.sl 6 n (λi=>(eV (f i))))),(1,(.fn 15 [])),(4,(.ref 0)),(5,(nV n)),(6,(iV 0)),(18,(nV n)),(19,(iV (wr .i64 (Af (ofNat b) 1))))]),[r3Z]⟩):=by
 exact Aa (ks:=[kn h0,kn h1,kn h13,kn h2]) (by kernel_rfl)
theorem Ag6 (h0:ilt (ofNat b) (ofNat n) = true) (h1:ieq (ofNat n) 0 = false) (h13:Al (ile 0 (Ae (wr .i64 (Az (wr .i64 (Af (ofNat b) (ofNat n))) 1)) (ofNat n))) (ilt (Ae (wr .i64 (Az (wr .i64 (Af (ofNat b) (ofNat n))) 1)) (ofNat n)) (ofNat n)) = true) (h2:Aw (f (toN (Ae (wr .i64 (Az (wr .i64 (Af (ofNat b) (ofNat n))) 1)) (ofNat n)))) = true):Ag (Lb L) (PC n f) (Sj n f b j) = some ((.ex 0),⟨(jsV 97 0 (λ_=>.und) [(0,(.sl 6 n (λi=>(eV (f i))))),(1,(.fn 15 [])),(4,(.ref 0)),(5,(nV n)),(6,(nV b))]),[r3Z]⟩):=by
 exact Aa (ks:=[kn h0,kn h1,kn h13,kn h2]) (by kernel_rfl)
theorem AgA (h0:ilt (ofNat b) (ofNat n) = false):Ag (Lb L) (PC n f) (Sj n f b j) = some ((.ex 0),⟨(jsV 97 0 (λ_=>.und) [(0,(.sl 6 n (λi=>(eV (f i))))),(1,(.fn 15 [])),(4,(.ref 0)),(5,(nV n)),(6,(iV 0))]),[r3Z]⟩):=by
 exact Aa (ks:=[kn h0]) (by kernel_rfl)
end
def Alp (n:Nat) (f:Nat->E6) :Nat->V:=lkV A7 [(16,(.sl 6 n (λi=>eV (f i)))),(17,(nV n))]
def Hg (n:Nat) (f:Nat->E6):Lp:=⟨(bmK 97 0 [0,1,4,5,6,8,9,37,38]),2,bmK 97 0 [0,1,4,5,8],2,n+1⟩
def I0 (n:Nat) (f:Nat->E6) (z b k:Nat) (g:Nat->Int) (j:Nat->V):St:=⟨(jsV 97 0 j [(0,.sl 6 n λi=>eV (f i)),(1,.fn 15 []),(4,.ref 0),(5,nV n),(6,nV z),(8,.ref 1),(9,nV k),(37,nV n),(38,nV b)]),[.row 3 1 0 (λ_=>.und),.row 3 1 n (λi=>iV (g i))]⟩
def Ie (n:Nat) (f:Nat->E6) (z b k:Nat) (g:Nat->Int):Ex × St:=(.ex 2,⟨(jsV 97 0 (λ_=>.und) [(0,.sl 6 n λi=>eV (f i)),(1,.fn 15 []),(4,.ref 0),(5,nV n),(8,.ref 1)]),[.row 3 1 0 (λ_=>.und),.row 3 1 n (λi=>iV (g i))]⟩)
noncomputable def Fo (L:LT):St->T (Ex × St):=λst=>AD tab ⟨Ak tb53,L,Gl⟩ (As Tryz.f14 2) 2 st
section
variable (L:LT) (n:Nat) (f:Nat->E6) (z b k:Nat) (g:Nat->Int)  (j:Nat->V)
include L n f z b k g j
theorem Agx (h0:ilt (ofNat b) (ofNat n) = true) (h1:ieq (ofNat n) 0 = false) (h2:ilt 0 (ofNat b) = false) (h13:Al (ile 0 (Ae (wr .i64 (Af (ofNat z) (ofNat b))) (ofNat n))) (ilt (Ae (wr .i64 (Af (ofNat z) (ofNat b))) (ofNat n)) (ofNat n)) = true) (h14:nlt (toN (Ae (wr .i64 (Af (ofNat z) (ofNat b))) (ofNat n))) n = true):Ag (Fo L) (Hg n f) (I0 n f z b k g j) = some (.nm,⟨(jsV 97 0 (λ_=>.und) [(0,(.sl 6 n (λi=>(eV (f i))))),(1,(.fn 15 [])),(4,(.ref 0)),(5,(nV n)),(6,(nV z)),(8,(.ref 1)),(9,(nV k)),(37,(nV n)),(38,(iV (wr .i64 (Af (ofNat b) 1))))]),[r3Z,(.row 3 1 n (Br (λi=>(iV (g i))) (toN (Ae (wr .i64 (Af (ofNat z) (ofNat b))) (ofNat n))) (nV k)))]⟩):=by
 exact Aa (ks:=[kn h0,kn h1,kn h2,kn h2,kn h2,kn h2,kn h2,kn h2,kn h2,kn h2,kn h2,kn h2,kn h2,kn h2,kF,kn h13,kn h14]) (by kernel_rfl)
theorem Ag1 (h0:ilt (ofNat b) (ofNat n) = true) (h1:ieq (ofNat n) 0 = false) (h2:ilt 0 (ofNat b) = true) (h14:Al (ile 0 (Ae (wr .i64 (Az (wr .i64 (Af (Ae (wr .i64 (Af (ofNat z) (ofNat b))) (ofNat n)) (ofNat n))) 1)) (ofNat n))) (ilt (Ae (wr .i64 (Az (wr .i64 (Af (Ae (wr .i64 (Af (ofNat z) (ofNat b))) (ofNat n)) (ofNat n))) 1)) (ofNat n)) (ofNat n)) = true) (h3:Aw (f (toN (Ae (wr .i64 (Az (wr .i64 (Af (Ae (wr .i64 (Af (ofNat z) (ofNat b))) (ofNat n)) (ofNat n))) 1)) (ofNat n)))) = false) (h16:Al (ile 0 (Ae (wr .i64 (Af (ofNat z) (ofNat b))) (ofNat n))) (ilt (Ae (wr .i64 (Af (ofNat z) (ofNat b))) (ofNat n)) (ofNat n)) = true) (h17:nlt (toN (Ae (wr .i64 (Af (ofNat z) (ofNat b))) (ofNat n))) n = true):Ag (Fo L) (Hg n f) (I0 n f z b k g j) = some (.nm,⟨(jsV 97 0 (λ_=>.und) [(0,(.sl 6 n (λi=>(eV (f i))))),(1,(.fn 15 [])),(4,(.ref 0)),(5,(nV n)),(6,(nV z)),(8,(.ref 1)),(9,(nV k)),(37,(nV n)),(38,(iV (wr .i64 (Af (ofNat b) 1))))]),[r3Z,(.row 3 1 n (Br (λi=>(iV (g i))) (toN (Ae (wr .i64 (Af (ofNat z) (ofNat b))) (ofNat n))) (nV k)))]⟩):=by
 exact Aa (ks:=[kn h0,kn h1,kn h2,kn h2,kn h2,kn h2,kn h2,kn h2,kn h2,kn h2,kn h1,kn h2,kn h14,kn h2,kn h2,kn h2,kn h3,kn h16,kn h17]) (by kernel_rfl)
theorem Agz (h0:ilt (ofNat b) (ofNat n) = true) (h1:ieq (ofNat n) 0 = false) (h2:ilt 0 (ofNat b) = true) (h14:Al (ile 0 (Ae (wr .i64 (Az (wr .i64 (Af (Ae (wr .i64 (Af (ofNat z) (ofNat b))) (ofNat n)) (ofNat n))) 1)) (ofNat n))) (ilt (Ae (wr .i64 (Az (wr .i64 (Af (Ae (wr .i64 (Af (ofNat z) (ofNat b))) (ofNat n)) (ofNat n))) 1)) (ofNat n)) (ofNat n)) = true) (h3:Aw (f (toN (Ae (wr .i64 (Az (wr .i64 (Af (Ae (wr .i64 (Af (ofNat z) (ofNat b))) (ofNat n)) (ofNat n))) 1)) (ofNat n)))) = true) (h16:Al (ile 0 (Ae (wr .i64 (Af (ofNat z) (ofNat b))) (ofNat n))) (ilt (Ae (wr .i64 (Af (ofNat z) (ofNat b))) (ofNat n)) (ofNat n)) = true) (h17:nlt (toN (Ae (wr .i64 (Af (ofNat z) (ofNat b))) (ofNat n))) n = true):Ag (Fo L) (Hg n f) (I0 n f z b k g j) = some (.nm,⟨(jsV 97 0 (λ_=>.und) [(0,(.sl 6 n (λi=>(eV (f i))))),(1,(.fn 15 [])),(4,(.ref 0)),(5,(nV n)),(6,(nV z)),(8,(.ref 1)),(9,(iV (wr .i64 (Af (ofNat k) 1)))),(37,(nV n)),(38,(iV (wr .i64 (Af (ofNat b) 1))))]),[r3Z,(.row 3 1 n (Br (λi=>(iV (g i))) (toN (Ae (wr .i64 (Af (ofNat z) (ofNat b))) (ofNat n))) (iV (wr .i64 (Af (ofNat k) 1)))))]⟩):=by
 exact Aa (ks:=[kn h0,kn h1,kn h2,kn h2,kn h2,kn h2,kn h2,kn h2,kn h2,kn h2,kn h1,kn h2,kn h14,kn h2,kn h2,kn h2,kn h3,kn h16,kn h17]) (by kernel_rfl)
theorem Ag3 (h0:ilt (ofNat b) (ofNat n) = false):Ag (Fo L) (Hg n f) (I0 n f z b k g j) = some ((.ex 2),⟨(jsV 97 0 (λ_=>.und) [(0,(.sl 6 n (λi=>(eV (f i))))),(1,(.fn 15 [])),(4,(.ref 0)),(5,(nV n)),(8,(.ref 1))]),[r3Z,(.row 3 1 n (λi=>(iV (g i))))]⟩):=by
 exact Aa (ks:=[kn h0]) (by kernel_rfl)
end
def Abx (n:Nat) (f:Nat->E6) (z:Nat):St:=⟨(jsV 97 0 (λ_=>.und) [(0,(.sl 6 n (λi=>eV (f i)))),(1,(.fn 15 [])),(4,(.ref 0)),(5,(nV n)),(6,(nV z)),(8,(.ref 1)),(9,(iV 0)),(35,(nV n)),(36,(.ref 1)),(37,(nV n)),(38,(iV 0))]),[r3Z,.row 3 1 n (λ_=>iV 0)]⟩
def IF (n:Nat) (f:Nat->E6):Lp:=⟨(bmK 97 0 [4,8,12,13,70,71]),4,bmK 97 0 [13],4,n+1⟩
def JZ (n:Nat) (f:Nat->E6) (b r:Nat) (g s o:Nat->Int) (j:Nat->V):St:=⟨(jsV 97 0 j [(4,.ref 0),(8,.ref 1),(12,.ref 2),(13,.ref 3),(70,nV n),(71,nV b)]),[.row 3 1 0 (λ_=>.und),.row 3 1 n (λi=>iV (g i)),.row 3 1 r (λi=>iV (s i)),.row 3 1 n (λi=>iV (o i))]⟩
def Ic (n:Nat) (f:Nat->E6) (b r:Nat) (g s o:Nat->Int):Ex × St:=(.ex 4,⟨(jsV 97 0 (λ_=>.und) [(13,.ref 3)]),[.row 3 1 0 (λ_=>.und),.row 3 1 n (λi=>iV (g i)),.row 3 1 r (λi=>iV (s i)),.row 3 1 n (λi=>iV (o i))]⟩)
noncomputable def GO (L:LT):St->T (Ex × St):=λst=>AD tab ⟨Ak tb53,L,Gl⟩ (As Tryz.f14 4) 4 st
section
variable (L:LT) (n:Nat) (f:Nat->E6) (b r:Nat) (g s o:Nat->Int)  (j:Nat->V)
include L n f b r g s o j
theorem Agr (h0:ilt (ofNat b) (ofNat n) = true) (h13:ile 0 (ofNat b) = true) (h1:nlt b n = true) (h2:Dv r = true) (h3:ilt (JA r s (g b)) 0 = false):Ag (GO L) (IF n f) (JZ n f b r g s o j) = some (.nm,⟨(jsV 97 0 (λ_=>.und) [(4,(.ref 0)),(8,(.ref 1)),(12,(.ref 2)),(13,(.ref 3)),(70,(nV n)),(71,(iV (wr .i64 (Af (ofNat b) 1))))]),[r3Z,(.row 3 1 n (λi=>(iV (g i)))),(.row 3 1 r (λi=>(iV (s i)))),(.row 3 1 n (Br (λi=>(iV (o i))) b (iV (JA r s (g b)))))]⟩):=by
 exact Aa (ks:=[kn h0,kA (kn h13) (kn h0),kn h1,kL r,kn h2,kn h3,kA (kn h13) (kn h0),kn h1]) (by kernel_rfl)
theorem Agt (h0:ilt (ofNat b) (ofNat n) = true) (h13:ile 0 (ofNat b) = true) (h1:nlt b n = true) (h2:Dv r = true) (h3:ilt (JA r s (g b)) 0 = true) (h14:Bx r 1 8 = true):Ag (GO L) (IF n f) (JZ n f b r g s o j) = some (.nm,⟨(jsV 97 0 (λ_=>.und) [(4,(.ref 0)),(8,(.ref 1)),(12,(.ref 2)),(13,(.ref 3)),(70,(nV n)),(71,(iV (wr .i64 (Af (ofNat b) 1))))]),[r3Z,(.row 3 1 n (λi=>(iV (g i)))),(.row 3 1 (Bd r 1) (A2 r (λi=>(iV (s i))) (iV (g b)))),(.row 3 1 n (Br (λi=>(iV (o i))) b (nV r)))]⟩):=by
 exact Aa (ks:=[kn h0,kA (kn h13) (kn h0),kn h1,kL r,kn h2,kn h3,kA (kn h13) (kn h0),kn h1,kn h14,kA (kn h13) (kn h0),kn h1]) (by kernel_rfl)
theorem Agv (h0:ilt (ofNat b) (ofNat n) = false):Ag (GO L) (IF n f) (JZ n f b r g s o j) = some ((.ex 4),⟨(jsV 97 0 (λ_=>.und) [(13,(.ref 3))]),[r3Z,(.row 3 1 n (λi=>(iV (g i)))),(.row 3 1 r (λi=>(iV (s i)))),(.row 3 1 n (λi=>(iV (o i))))]⟩):=by
 exact Aa (ks:=[kn h0]) (by kernel_rfl)
end
def Abc (n:Nat) (f:Nat->E6) (z:Nat) (g:Nat->Int):St:=⟨(jsV 97 0 (λ_=>.und) [(0,(.sl 6 n (λi=>eV (f i)))),(1,(.fn 15 [])),(4,(.ref 0)),(5,(nV n)),(8,(.ref 1)),(12,(.ref 2)),(13,(.ref 3)),(68,(nV n)),(69,(.ref 3)),(70,(nV n)),(71,(iV 0))]),[r3Z,.row 3 1 n (λi=>iV (g i)),r3Z,.row 3 1 n (λ_=>iV 0)]⟩
theorem AiL (L:LT) (p0:PT) (p2:PT) (p4:PT) (n:Nat) (f:Nat->E6) (z:Nat) (g:Nat->Int) (r:Nat) (gg ss o:Nat->Int) (h0:C5 8 (ofNat n) (ofNat n) = true) (hp0:p0 (Lb (onP 0 p0 (O4 n f z) (onP 2 p2 (Ie n f z 0 0 g) (onP 4 p4 (Ic n f 0 r gg ss o) L)))) (Sj n f 0 (Alp n f )) = true) (hp2:p2 (Fo (onP 0 p0 (O4 n f z) (onP 2 p2 (Ie n f z 0 0 g) (onP 4 p4 (Ic n f 0 r gg ss o) L)))) (Abx n f z) = true) (hp4:p4 (GO (onP 0 p0 (O4 n f z) (onP 2 p2 (Ie n f z 0 0 g) (onP 4 p4 (Ic n f 0 r gg ss o) L)))) (Abc n f z g) = true):(Au (Ah tab ⟨Ak tb53,(onP 0 p0 (O4 n f z) (onP 2 p2 (Ie n f z 0 0 g) (onP 4 p4 (Ic n f 0 r gg ss o) L))),Gl⟩ Tryz.f14 [.sl 6 n λi=>eV (f i),.fn 15 []] [])).sem = some ((.ref 0),[(.row 3 1 n (λi=>(iV (o i))))]):=by
 exact Aa (ks:=[kn hp0,kn h0,kn hp2,kn h0,kn hp4]) (by kernel_rfl)
theorem Z8 (L:LT) (n:Nat) (f:Nat->E6) (hn:n <= 4611686018427387903):∀ (e i:Nat) (j:Nat->V) (q:Nat),n = i+e->e < q->(∀ k,k < i->(λk=>Ax (f k)) ((k+(n - 1)) % n) = false) ->
  (AA (Lc L) (PD n f) q (Sk n f i j)).sem = some (O5 n f (Cb (λk=>Ax (f k)) n))
 | 0,i,j,q+1,h,_,hb=>by
  have:n = i:=by omega
  subst this
  rw [OI hb]
  exact Ab (AgB L n f n j (A9 (Nat.le_refl _)))
 | e+1,i,j,q+1,h,h2,hb=>by
  have hl:i < n:=by omega
  have hx:=Ja (a:=i) (n:=n) (by omega) (by omega)
  have hin:Al (ile 0 (Ae (wr .i64 (Az (wr .i64 (Af (ofNat i) (ofNat n))) 1)) (ofNat n))) (ilt (Ae (wr .i64 (Az (wr .i64 (Af (ofNat i) (ofNat n))) 1)) (ofNat n)) (ofNat n)) = true:=by
   rw [hx]
   exact Ap (Nat.mod_lt _ (by omega))
  cases hp:Ax (f ((i+(n - 1)) % n)) with
  | true =>
   rw [TM (p:=λk=>Ax (f k)) hl hp hb]
   exact Ab (Ag7 L n f i j (ofNat_lt hl) (F3 (by omega)) hin (by rw [hx]; exact hp))
  | false =>
   rw [Ab (Ag9 L n f i j (ofNat_lt hl) (F3 (by omega)) hin (by rw [hx]; exact hp)),Aq,An hl (by omega)]
   refine Z8 L n f hn e (i+1) (λ_=>.und) q (by omega) (by omega) λk hk=>?_
   by_cases hki:k = i
   ·rw [hki]; exact hp
   ·exact hb k (by omega)
theorem Wq (L:LT) (n:Nat) (f:Nat->E6) (hn:n <= 4611686018427387903) (z:Nat) (hz:z < n):∀ (e b:Nat) (j:Nat->V) (q:Nat),n = b+e->e < q ->
  (AA (Fp L) (Hh n f) q (I1 n f z b (Aj (DH (λk=>Ax (f k)) n z) (b - 1)) (gN (λk=>Ax (f k)) n z b) j)).sem = some (If n f z 0 0 (gN (λk=>Ax (f k)) n z n))
 | 0,b,j,q+1,h,_=>by
  have:n = b:=by omega
  subst this
  exact Ab (Ag4 L n f z n _ _ j (A9 (Nat.le_refl _)))
 | e+1,b,j,q+1,h,h2=>by
  have hl:b < n:=by omega
  have hI:Ae (wr .i64 (Af (ofNat z) (ofNat b))) (ofNat n) = ofNat ((z+b) % n):=by rw [Dm (by omega),Cu]
  have hlt:(z+b) % n < n:=Nat.mod_lt _ (by omega)
  have hin:Al (ile 0 (Ae (wr .i64 (Af (ofNat z) (ofNat b))) (ofNat n))) (ilt (Ae (wr .i64 (Af (ofNat z) (ofNat b))) (ofNat n)) (ofNat n)) = true:=by
   rw [hI]
   exact Ap hlt
  have hnl:nlt (toN (Ae (wr .i64 (Af (ofNat z) (ofNat b))) (ofNat n))) n = true:=by
   rw [hI]
   exact decide_eq_true hlt
  have next:=Wq L n f hn z hz e (b+1) (λ_=>.und) q (by omega) (by omega)
  rw [show b+1 - 1 = b by omega] at next
  cases b with
  | zero =>
   rw [Ab (Agy L n f z 0 _ _ j (ofNat_lt hl) (F3 (by omega)) rfl hin hnl),Aq,hI,An hl (by omega),show toN (ofNat ((z+0) % n)) = (z+0) % n from rfl,Ce]
   have hs:=MN (p:=λk=>Ax (f k)) hz hl
   rw [<- hs] at next
   exact next
  | succ b =>
   have hx:Ae (wr .i64 (Az (wr .i64 (Af (Ae (wr .i64 (Af (ofNat z) (ofNat (b+1)))) (ofNat n)) (ofNat n))) 1)) (ofNat n) = ofNat ((z+b) % n):=by
    rw [hI,Ja (by omega) (by omega),Qj hz (by omega)]
   have hxin:Al (ile 0 (Ae (wr .i64 (Az (wr .i64 (Af (Ae (wr .i64 (Af (ofNat z) (ofNat (b+1)))) (ofNat n)) (ofNat n))) 1)) (ofNat n))) (ilt (Ae (wr .i64 (Az (wr .i64 (Af (Ae (wr .i64 (Af (ofNat z) (ofNat (b+1)))) (ofNat n)) (ofNat n))) 1)) (ofNat n)) (ofNat n)) = true:=by
    rw [hx]
    exact Ap (Nat.mod_lt _ (by omega))
   have hs:=MN (p:=λk=>Ax (f k)) hz hl
   have hc:=AV (DH (λk=>Ax (f k)) n z) b
   have h0:ilt 0 (ofNat (b+1)) = true:=by rw [show (0:Int) = ofNat 0 from rfl,Cf]; simp
   rw [show b+1 - 1 = b by omega]
   cases hp:Ax (f ((z+b) % n)) with
   | true =>
    rw [Ab (Ag0 L n f z (b+1) _ _ j (ofNat_lt hl) (F3 (by omega)) h0 hxin (by rw [hx]; exact hp) hin hnl),Aq,hI,An hl (by omega),show toN (ofNat ((z+(b+1)) % n)) = (z+(b+1)) % n from rfl,An (show Aj (DH (λk=>Ax (f k)) n z) b < n by omega) (by omega),Ce,<- Bi (p:=DH (λk=>Ax (f k)) n z) (i:=b) hp,hs]
    exact next
   | false =>
    rw [Ab (Ag2 L n f z (b+1) _ _ j (ofNat_lt hl) (F3 (by omega)) h0 hxin (by rw [hx]; exact hp) hin hnl),Aq,hI,An hl (by omega),show toN (ofNat ((z+(b+1)) % n)) = (z+(b+1)) % n from rfl,Ce,<- B5 (p:=DH (λk=>Ax (f k)) n z) (i:=b) hp,hs]
    exact next
theorem Wo (L:LT) (n:Nat) (f:Nat->E6) (p:Nat->Bool) (hn:n * 8 <= 140737488355328) (z:Nat) (g:Nat->Int) (hg:∀ i,i < n->g i = ofNat (snN p n z (AU p n i))):∀ (e b:Nat) (j:Nat->V) (q:Nat),n = b+e->e < q ->
  (AA (GP L) (IG n f) q (Ka n f b (rN p n b) g (Ew p n z b) (UQ p n b) j)).sem = some (Id n f 0 (rN p n n) g (Ew p n z n) (Ay p n))
 | 0,b,j,q+1,h,_=>by
  have:n = b:=by omega
  subst this
  rw [<- Aaf p n]
  exact Ab (Agw L n f n _ _ _ _ j (A9 (Nat.le_refl _)))
 | e+1,b,j,q+1,h,h2=>by
  have hl:b < n:=by omega
  have hr:=S6 p n b
  have h8:Dv (rN p n b) = true:=by
   unfold Dv
   simp
   omega
  have hnl:nlt b n = true:=by simpa [nlt] using hl
  have next:=Wo L n f p hn z g hg e (b+1) (λ_=>.und) q (by omega) (by omega)
  rcases Nat.lt_or_ge (AU p n b) (rN p n b) with hc | hc
  ·have hi:=Sr (z:=z) hl hc
   rw [<- hg b hl] at hi
   obtain ⟨e1,e2⟩:=N0 (z:=z) hc
   rw [Ab (Ags L n f b _ g _ _ j (ofNat_lt hl) (AE b) hnl h8 (by rw [hi]; simp [ilt])),Aq,An hl (by omega),hi,Ce,IC hl]
   rw [e1,e2] at next
   exact next
  ·have hc:AU p n b = rN p n b:=Nat.le_antisymm (Kj p n b hl) hc
   have hi:=Ss (z:=z) hl hc
   rw [<- hg b hl] at hi
   obtain ⟨e1,e2⟩:=Pv (z:=z) hc
   rw [<- hg b hl] at e1
   rw [Ab (Agu L n f b _ g _ _ j (ofNat_lt hl) (AE b) hnl h8 (by rw [hi]; rfl) (BM (by omega))),Aq,An hl (by omega),e1,Ce,<- hc,IC hl]
   rw [e2,<- hc] at next
   exact next
def VW:List (Nat × List (Nat × V)):=[(4,[(2,iV 0)])]
def Rf (n:Nat) (f:Nat->E6):List (Nat × Lp):=[(0,PD n f),(2,Hh n f),(4,IG n f)]
theorem AdM (n:Nat) (f:Nat->E6) (z:Nat) (g:Nat->Int):Ck (Abd n f z g) [(2,iV 0)] = Ka n f 0 0 g (λ_=>0) (λ_=>0) (λi=>nth (Abd n f z g).t i):=by kernel_rfl
theorem Ai0 (n:Nat) (f:Nat->E6) (z:Nat):Aby n f z = I1 n f z 0 0 (λ_=>0) (λi=>nth (Aby n f z).t i):=by kernel_rfl
theorem Ack (n:Nat) (f:Nat->E6) (hp:0 < n) (h8:n * 8 <= 140737488355328) (hm:C5 8 (ofNat n) (ofNat n) = true) :
  (Au (Ah tab (cxZ Gl tb53 VW (Rf n f)) Tryz.f14 [A5 n f,.fn 13 []] [])).sem = some (.ref 0,[.row 3 1 n λk=>iV (Ay (λk=>Ax (f k)) n k)]):=by
 have hL:=CK VW (Rf n f)
 have hz:=TL (λk=>Ax (f k)) hp
 have hb:=OH (λk=>Ax (f k)) hp
 refine A1 (Ar (Ar (Ar hL hL) hL) hL) _ (AiM _ _ _ _ n f (Cb (λk=>Ax (f k)) n) (gN (λk=>Ax (f k)) n (Cb (λk=>Ax (f k)) n) n) (rN (λk=>Ax (f k)) n n) (gN (λk=>Ax (f k)) n (Cb (λk=>Ax (f k)) n) n) (Ew (λk=>Ax (f k)) n (Cb (λk=>Ax (f k)) n) n) (Ay (λk=>Ax (f k)) n) hm
  (Ai ?_) (Ai ?_) (Ai ?_))
 ·show (AA _ (PD n f) (n+1) _).sem = _
  exact Z8 _ n f (by omega) n 0 _ (n+1) (by omega) (by omega) (λk hk=>absurd hk (Nat.not_lt_zero _))
 ·show (AA _ (Hh n f) (n+1) _).sem = _
  rw [Ai0]
  have h:=λL j=>Wq L n f (by omega) _ hz n 0 j (n+1) (by omega) (by omega)
  simp only [Alx] at h
  exact h _ _
 ·show (AA _ (IG n f) (n+1) (Ck _ [(2,iV 0)])).sem = _
  rw [AdM]
  exact Wo _ n f (λk=>Ax (f k)) h8 (Cb (λk=>Ax (f k)) n) _ (λi hi=>AaT hb hi) n 0 _ (n+1) (by omega) (by omega)
theorem Z7 (L:LT) (n:Nat) (f:Nat->E6) (hn:n <= 4611686018427387903):∀ (e i:Nat) (j:Nat->V) (q:Nat),n = i+e->e < q->(∀ k,k < i->(λk=>Aw (f k)) ((k+(n - 1)) % n) = false) ->
  (AA (Lb L) (PC n f) q (Sj n f i j)).sem = some (O4 n f (Cb (λk=>Aw (f k)) n))
 | 0,i,j,q+1,h,_,hb=>by
  have:n = i:=by omega
  subst this
  rw [OI hb]
  exact Ab (AgA L n f n j (A9 (Nat.le_refl _)))
 | e+1,i,j,q+1,h,h2,hb=>by
  have hl:i < n:=by omega
  have hx:=Ja (a:=i) (n:=n) (by omega) (by omega)
  have hin:Al (ile 0 (Ae (wr .i64 (Az (wr .i64 (Af (ofNat i) (ofNat n))) 1)) (ofNat n))) (ilt (Ae (wr .i64 (Az (wr .i64 (Af (ofNat i) (ofNat n))) 1)) (ofNat n)) (ofNat n)) = true:=by
   rw [hx]
   exact Ap (Nat.mod_lt _ (by omega))
  cases hp:Aw (f ((i+(n - 1)) % n)) with
  | true =>
   rw [TM (p:=λk=>Aw (f k)) hl hp hb]
   exact Ab (Ag6 L n f i j (ofNat_lt hl) (F3 (by omega)) hin (by rw [hx]; exact hp))
  | false =>
   rw [Ab (Ag8 L n f i j (ofNat_lt hl) (F3 (by omega)) hin (by rw [hx]; exact hp)),Aq,An hl (by omega)]
   refine Z7 L n f hn e (i+1) (λ_=>.und) q (by omega) (by omega) λk hk=>?_
   by_cases hki:k = i
   ·rw [hki]; exact hp
   ·exact hb k (by omega)
theorem Wp (L:LT) (n:Nat) (f:Nat->E6) (hn:n <= 4611686018427387903) (z:Nat) (hz:z < n):∀ (e b:Nat) (j:Nat->V) (q:Nat),n = b+e->e < q ->
  (AA (Fo L) (Hg n f) q (I0 n f z b (Aj (DH (λk=>Aw (f k)) n z) (b - 1)) (gN (λk=>Aw (f k)) n z b) j)).sem = some (Ie n f z 0 0 (gN (λk=>Aw (f k)) n z n))
 | 0,b,j,q+1,h,_=>by
  have:n = b:=by omega
  subst this
  exact Ab (Ag3 L n f z n _ _ j (A9 (Nat.le_refl _)))
 | e+1,b,j,q+1,h,h2=>by
  have hl:b < n:=by omega
  have hI:Ae (wr .i64 (Af (ofNat z) (ofNat b))) (ofNat n) = ofNat ((z+b) % n):=by rw [Dm (by omega),Cu]
  have hlt:(z+b) % n < n:=Nat.mod_lt _ (by omega)
  have hin:Al (ile 0 (Ae (wr .i64 (Af (ofNat z) (ofNat b))) (ofNat n))) (ilt (Ae (wr .i64 (Af (ofNat z) (ofNat b))) (ofNat n)) (ofNat n)) = true:=by
   rw [hI]
   exact Ap hlt
  have hnl:nlt (toN (Ae (wr .i64 (Af (ofNat z) (ofNat b))) (ofNat n))) n = true:=by
   rw [hI]
   exact decide_eq_true hlt
  have next:=Wp L n f hn z hz e (b+1) (λ_=>.und) q (by omega) (by omega)
  rw [show b+1 - 1 = b by omega] at next
  cases b with
  | zero =>
   rw [Ab (Agx L n f z 0 _ _ j (ofNat_lt hl) (F3 (by omega)) rfl hin hnl),Aq,hI,An hl (by omega),show toN (ofNat ((z+0) % n)) = (z+0) % n from rfl,Ce]
   have hs:=MN (p:=λk=>Aw (f k)) hz hl
   rw [<- hs] at next
   exact next
  | succ b =>
   have hx:Ae (wr .i64 (Az (wr .i64 (Af (Ae (wr .i64 (Af (ofNat z) (ofNat (b+1)))) (ofNat n)) (ofNat n))) 1)) (ofNat n) = ofNat ((z+b) % n):=by
    rw [hI,Ja (by omega) (by omega),Qj hz (by omega)]
   have hxin:Al (ile 0 (Ae (wr .i64 (Az (wr .i64 (Af (Ae (wr .i64 (Af (ofNat z) (ofNat (b+1)))) (ofNat n)) (ofNat n))) 1)) (ofNat n))) (ilt (Ae (wr .i64 (Az (wr .i64 (Af (Ae (wr .i64 (Af (ofNat z) (ofNat (b+1)))) (ofNat n)) (ofNat n))) 1)) (ofNat n)) (ofNat n)) = true:=by
    rw [hx]
    exact Ap (Nat.mod_lt _ (by omega))
   have hs:=MN (p:=λk=>Aw (f k)) hz hl
   have hc:=AV (DH (λk=>Aw (f k)) n z) b
   have h0:ilt 0 (ofNat (b+1)) = true:=by rw [show (0:Int) = ofNat 0 from rfl,Cf]; simp
   rw [show b+1 - 1 = b by omega]
   cases hp:Aw (f ((z+b) % n)) with
   | true =>
    rw [Ab (Agz L n f z (b+1) _ _ j (ofNat_lt hl) (F3 (by omega)) h0 hxin (by rw [hx]; exact hp) hin hnl),Aq,hI,An hl (by omega),show toN (ofNat ((z+(b+1)) % n)) = (z+(b+1)) % n from rfl,An (show Aj (DH (λk=>Aw (f k)) n z) b < n by omega) (by omega),Ce,<- Bi (p:=DH (λk=>Aw (f k)) n z) (i:=b) hp,hs]
    exact next
   | false =>
    rw [Ab (Ag1 L n f z (b+1) _ _ j (ofNat_lt hl) (F3 (by omega)) h0 hxin (by rw [hx]; exact hp) hin hnl),Aq,hI,An hl (by omega),show toN (ofNat ((z+(b+1)) % n)) = (z+(b+1)) % n from rfl,Ce,<- B5 (p:=DH (λk=>Aw (f k)) n z) (i:=b) hp,hs]
    exact next
theorem Wn (L:LT) (n:Nat) (f:Nat->E6) (p:Nat->Bool) (hn:n * 8 <= 140737488355328) (z:Nat) (g:Nat->Int) (hg:∀ i,i < n->g i = ofNat (snN p n z (AU p n i))):∀ (e b:Nat) (j:Nat->V) (q:Nat),n = b+e->e < q ->
  (AA (GO L) (IF n f) q (JZ n f b (rN p n b) g (Ew p n z b) (UQ p n b) j)).sem = some (Ic n f 0 (rN p n n) g (Ew p n z n) (Ay p n))
 | 0,b,j,q+1,h,_=>by
  have:n = b:=by omega
  subst this
  rw [<- Aaf p n]
  exact Ab (Agv L n f n _ _ _ _ j (A9 (Nat.le_refl _)))
 | e+1,b,j,q+1,h,h2=>by
  have hl:b < n:=by omega
  have hr:=S6 p n b
  have h8:Dv (rN p n b) = true:=by
   unfold Dv
   simp
   omega
  have hnl:nlt b n = true:=by simpa [nlt] using hl
  have next:=Wn L n f p hn z g hg e (b+1) (λ_=>.und) q (by omega) (by omega)
  rcases Nat.lt_or_ge (AU p n b) (rN p n b) with hc | hc
  ·have hi:=Sr (z:=z) hl hc
   rw [<- hg b hl] at hi
   obtain ⟨e1,e2⟩:=N0 (z:=z) hc
   rw [Ab (Agr L n f b _ g _ _ j (ofNat_lt hl) (AE b) hnl h8 (by rw [hi]; simp [ilt])),Aq,An hl (by omega),hi,Ce,IC hl]
   rw [e1,e2] at next
   exact next
  ·have hc:AU p n b = rN p n b:=Nat.le_antisymm (Kj p n b hl) hc
   have hi:=Ss (z:=z) hl hc
   rw [<- hg b hl] at hi
   obtain ⟨e1,e2⟩:=Pv (z:=z) hc
   rw [<- hg b hl] at e1
   rw [Ab (Agt L n f b _ g _ _ j (ofNat_lt hl) (AE b) hnl h8 (by rw [hi]; rfl) (BM (by omega))),Aq,An hl (by omega),e1,Ce,<- hc,IC hl]
   rw [e2,<- hc] at next
   exact next
def VV:List (Nat × List (Nat × V)):=[(4,[(2,iV 0)])]
def Re (n:Nat) (f:Nat->E6):List (Nat × Lp):=[(0,PC n f),(2,Hg n f),(4,IF n f)]
theorem AdL (n:Nat) (f:Nat->E6) (z:Nat) (g:Nat->Int):Ck (Abc n f z g) [(2,iV 0)] = JZ n f 0 0 g (λ_=>0) (λ_=>0) (λi=>nth (Abc n f z g).t i):=by kernel_rfl
theorem Aiz (n:Nat) (f:Nat->E6) (z:Nat):Abx n f z = I0 n f z 0 0 (λ_=>0) (λi=>nth (Abx n f z).t i):=by kernel_rfl
theorem Acj (n:Nat) (f:Nat->E6) (hp:0 < n) (h8:n * 8 <= 140737488355328) (hm:C5 8 (ofNat n) (ofNat n) = true) :
  (Au (Ah tab (cxZ Gl tb53 VV (Re n f)) Tryz.f14 [A5 n f,.fn 15 []] [])).sem = some (.ref 0,[.row 3 1 n λk=>iV (Ay (λk=>Aw (f k)) n k)]):=by
 have hL:=CK VV (Re n f)
 have hz:=TL (λk=>Aw (f k)) hp
 have hb:=OH (λk=>Aw (f k)) hp
 refine A1 (Ar (Ar (Ar hL hL) hL) hL) _ (AiL _ _ _ _ n f (Cb (λk=>Aw (f k)) n) (gN (λk=>Aw (f k)) n (Cb (λk=>Aw (f k)) n) n) (rN (λk=>Aw (f k)) n n) (gN (λk=>Aw (f k)) n (Cb (λk=>Aw (f k)) n) n) (Ew (λk=>Aw (f k)) n (Cb (λk=>Aw (f k)) n) n) (Ay (λk=>Aw (f k)) n) hm
  (Ai ?_) (Ai ?_) (Ai ?_))
 ·show (AA _ (PC n f) (n+1) _).sem = _
  exact Z7 _ n f (by omega) n 0 _ (n+1) (by omega) (by omega) (λk hk=>absurd hk (Nat.not_lt_zero _))
 ·show (AA _ (Hg n f) (n+1) _).sem = _
  rw [Aiz]
  have h:=λL j=>Wp L n f (by omega) _ hz n 0 j (n+1) (by omega) (by omega)
  simp only [Alx] at h
  exact h _ _
 ·show (AA _ (IF n f) (n+1) (Ck _ [(2,iV 0)])).sem = _
  rw [AdL]
  exact Wn _ n f (λk=>Aw (f k)) h8 (Cb (λk=>Aw (f k)) n) _ (λi hi=>AaT hb hi) n 0 _ (n+1) (by omega) (by omega)
noncomputable def Aih:List V->T (V × List Blk)
 | [v,.fn g []]=>apL v λn f=>.br (Al (ilt 0 (ofNat n)) (Al (Dv n) (C5 8 (ofNat n) (ofNat n)))) (match Nat.beq g 13,Nat.beq g 15 with
  | true,_=>.leaf (.ref 0,[.row 3 1 n λk=>iV (Ay (λk=>Ax (f k)) n k)])
  | _,true=>.leaf (.ref 0,[.row 3 1 n λk=>iV (Ay (λk=>Aw (f k)) n k)])
  | _,_=>.fail) .fail
 | _=>.fail
theorem p53:A6 Tryz.prog Gl 14 Aih:=by
 refine Av AI mixed Tryz.func14 (by kernel_rfl) (by kernel_rfl) λvs v h' h=>?_
 unfold Aih at h
 split at h
 ·rename_i u g
  obtain ⟨n,f,ha,h1⟩:=Cc h
  obtain ⟨h8,hq⟩:=Ad h1
  have h8:ilt 0 (ofNat n) = true ∧ Dv n = true ∧ C5 8 (ofNat n) (ofNat n) = true:=by simpa [Al] using h8
  obtain ⟨h9,h8,hm⟩:=h8
  have h9:0 < n:=by rw [show (0:Int) = ofNat 0 from rfl,Cf] at h9; simpa using h9
  have h8':n * 8 <= 140737488355328:=of_decide_eq_true h8
  have hA:Bm [u,.fn g []] [A5 n f,.fn g []]:=λS w cs hv=>by
   obtain ⟨c,l,rfl,q1,q2⟩:=hv
   exact ⟨c,l,rfl,ha S w c q1,q2⟩
  cases h52:Nat.beq g 13 with
  | true =>
   rw [h52] at hq
   have he:=Nat.eq_of_beq_eq_true h52
   subst he
   have:=Ac hq
   simp only [Prod.mk.injEq] at this
   obtain ⟨rfl,rfl⟩:=this
   have hx:=Hx tb53_ok VW (Rf n f) (G:=Gl)
   exact ⟨_,cxZ Gl tb53 VW (Rf n f),_,hA,rfl,hx.1,hx.2,Ack n f h9 h8' hm,A0.refl _⟩
  | false =>
   rw [h52] at hq
   cases h54:Nat.beq g 15 with
   | true =>
    rw [h54] at hq
    have he:=Nat.eq_of_beq_eq_true h54
    subst he
    have:=Ac hq
    simp only [Prod.mk.injEq] at this
    obtain ⟨rfl,rfl⟩:=this
    have hx:=Hx tb53_ok VV (Re n f) (G:=Gl)
    exact ⟨_,cxZ Gl tb53 VV (Re n f),_,hA,rfl,hx.1,hx.2,Acj n f h9 h8' hm,A0.refl _⟩
   | false =>
    rw [h54] at hq
    cases hq
 ·cases h
end Go.Proofs.YthlojajaenfidaaGreatDoor.Sh
