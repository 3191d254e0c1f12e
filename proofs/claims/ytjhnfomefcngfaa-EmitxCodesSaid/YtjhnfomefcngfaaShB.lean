/-
  Layer 7: the program's numbers of threads and of locations (met) are the document's parts. No conditions.
-/
import Derived.Test.YtjhnfomefcngfaaShA
import Derived.Test.YtjhnfomefcngfaaCyQ
import Derived.Test.YtjhnfomefcngfaaCyR
namespace Go.Proofs.Ytjhnfomefcngfaa.Sh
open Go.Sy Ed
open Int (ofNat)
noncomputable def tb53:List (Nat × (List V->T (V × List Blk))):=[(52,BO λe=>bV (Ax e)),(54,BO λe=>bV (Aw e)),(92,UV)]
theorem tb53_ok:AA Try.prog Gl tb53:=.cons p52 <| .cons p54 <| .cons p92 .nil
theorem Bv {a n:Nat} (h:a < 2 * n):a % n = if a < n then a else a - n:=by
 split
 ·rename_i h1; exact Nat.mod_eq_of_lt h1
 ·rename_i h1
  have h1:n <= a:=Nat.le_of_not_lt h1
  rw [Nat.mod_eq_sub_mod h1,Nat.mod_eq_of_lt (by omega)]
theorem AhF {n z b:Nat} (hz:z < n) (hb:b < n):posN n z ((z+b) % n) = b:=by
 unfold posN
 rw [Bv (a:=z+b) (by omega)]
 split
 ·rw [Bv (by omega)]; split <;> omega
 ·rw [Bv (by omega)]; split <;> omega
theorem Ac7 {n z i:Nat} (hz:z < n) (hi:i < n):(z+posN n z i) % n = i:=by
 unfold posN
 rw [Bv (a:=i+(n - z)) (by omega)]
 split
 ·rw [Bv (by omega)]; split <;> omega
 ·rw [Bv (by omega)]; split <;> omega
theorem Qf {n z b:Nat} (hz:z < n) (hb:b < n):((z+(b+1)) % n+(n - 1)) % n = (z+b) % n:=by
 rcases Nat.lt_or_ge (b+1) n with h | h
 ·rw [Bv (a:=z+(b+1)) (by omega),Bv (a:=z+b) (by omega)]
  split <;> split <;> (rw [Bv (by omega)]; split <;> omega)
 ·have:b+1 = n:=by omega
  rw [this,Nat.add_mod_right,Nat.mod_eq_of_lt hz]
  rw [Bv (by omega),Bv (a:=z+b) (by omega)]
  split <;> split <;> omega
theorem F7 {n:Nat} (h:0 < n):ieq (ofNat n) 0 = false:=by
 simp [ieq]
 omega
theorem Jc {a n:Nat} (hn:0 < n) (h:a+n <= 9223372036854775807):Ae (wr .i64 (AK (wr .i64 (Af (ofNat a) (ofNat n))) 1)) (ofNat n) = ofNat ((a+(n - 1)) % n):=by
 rw [D9 h]
 have:wr .i64 (AK (ofNat (a+n)) 1) = ofNat (a+(n - 1)):=by
  have:ofNat (a+n) = ofNat (a+(n - 1)+1):=by congr 1; omega
  rw [this]
  unfold wr AK IntKind.wrap
  simp [IntKind.bits,IntKind.signed]
  omega
 rw [this,C5]
def Ch (p:Nat->Bool) (n:Nat):Nat:=match (List.range n).find? λi=>p ((i+(n - 1)) % n) with
 | some z=>z
 | none=>0
theorem TH {p:Nat->Bool} {n i:Nat} (hi:i < n) (h:p ((i+(n - 1)) % n) = true) (hb:∀ k,k < i->p ((k+(n - 1)) % n) = false):Ch p n = i:=by
 unfold Ch
 have:(List.range n).find? (λi=>p ((i+(n - 1)) % n)) = some i:=by
  rw [List.find?_range_eq_some]
  exact ⟨h,by simpa using hi,λj hj=>by rw [hb j hj]; rfl⟩
 rw [this]
theorem OK {p:Nat->Bool} {n:Nat} (hb:∀ k,k < n->p ((k+(n - 1)) % n) = false):Ch p n = 0:=by
 unfold Ch
 have:(List.range n).find? (λi=>p ((i+(n - 1)) % n)) = none:=by
  rw [List.find?_eq_none]
  intro k hk
  rw [hb k (by simpa using hk)]
  simp
 rw [this]
theorem OJ (p:Nat->Bool) {n:Nat} (hn:0 < n):Begin p n (Ch p n):=by
 cases h:(List.range n).find? (λi=>p ((i+(n - 1)) % n)) with
 | none =>
  have hz:Ch p n = 0:=by unfold Ch; rw [h]
  rw [hz]
  rw [List.find?_eq_none] at h
  refine .none λk hk=>?_
  have:=h ((k+1) % n) (by simpa using Nat.mod_lt _ hn)
  rw [show ((k+1) % n+(n - 1)) % n = k by
   rw [Bv (a:=k+1) (by omega)]
   split <;> (rw [Bv (by omega)]; split <;> omega)] at this
  simpa using this
 | some z =>
  have hz:Ch p n = z:=by unfold Ch; rw [h]
  rw [hz]
  rw [List.find?_range_eq_some] at h
  obtain ⟨h1,h2,h3⟩:=h
  have h2:z < n:=by simpa using h2
  have at':∀ k,0 < k->k < n->(k+(n - 1)) % n = k - 1:=λk h0 hk=>by
   rw [Bv (by omega)]; split <;> omega
  have at0:(0+(n - 1)) % n = n - 1:=by rw [Nat.zero_add,Nat.mod_eq_of_lt (by omega)]
  rcases Nat.eq_zero_or_pos z with h0 | h0
  ·subst h0
   rw [at0] at h1
   exact .last hn h1
  ·rw [at' z h0 h2] at h1
   refine .first h0 h2 h1 (λk hk=>?_) ?_
   ·have:=h3 (k+1) (by omega)
    rw [at' (k+1) (by omega) (by omega)] at this
    simpa using this
   ·have:=h3 0 h0
    rw [at0] at this
    simpa using this
theorem TG (p:Nat->Bool) {n:Nat} (hn:0 < n):Ch p n < n:=by
 have h:=OJ p hn
 generalize Ch p n = z at h
 cases h with
 | none _=>exact hn
 | last _ _=>exact hn
 | first _ h _ _ _=>exact h
def gN (p:Nat->Bool) (n z b i:Nat):Int:=if i < n ∧ posN n z i < b then ofNat (Al (DP p n z) (posN n z i)) else 0
theorem Al7 (p:Nat->Bool) (n z:Nat):gN p n z 0 = λ_=>0:=by
 funext i
 simp [gN]
theorem MN {p:Nat->Bool} {n z b:Nat} (hz:z < n) (hb:b < n):Nj (gN p n z b) ((z+b) % n) (ofNat (Al (DP p n z) b)) = gN p n z (b+1):=by
 funext i
 unfold Nj
 by_cases hi:i = (z+b) % n
 ·subst hi
  rw [show decide ((z+b) % n = (z+b) % n) = true by simp]
  simp only [cond_true]
  unfold gN
  rw [AhF hz hb,if_pos ⟨Nat.mod_lt _ (by omega),by omega⟩]
 ·rw [show decide (i = (z+b) % n) = false by simpa using hi]
  simp only [cond_false]
  unfold gN
  by_cases hin:i < n
  ·have hp:posN n z i ≠ b:=λhe=>hi (by rw [<- he,Ac7 hz hin])
   by_cases h1:posN n z i < b
   ·rw [if_pos ⟨hin,h1⟩,if_pos ⟨hin,by omega⟩]
   ·rw [if_neg (λh=>h1 h.2),if_neg (λh=>by have:=h.2; omega)]
  ·rw [if_neg (λh=>hin h.1),if_neg (λh=>hin h.1)]
theorem Aat {p:Nat->Bool} {n z i:Nat} (hb:Begin p n z) (hi:i < n):gN p n z n i = ofNat (snN p n z (AZ p n i)):=by
 unfold gN
 rw [if_pos ⟨hi,show (i+(n - z)) % n < n from Nat.mod_lt _ (by omega)⟩,Ac8 hb hi]
def E3 (p:Nat->Bool) (n z b i:Nat):Int:=if i < rN p n b then ofNat (snN p n z i) else 0
def UG (p:Nat->Bool) (n b i:Nat):Int:=if i < b then A0 p n i else 0
theorem ZA (p:Nat->Bool) (n:Nat):UG p n n = A0 p n:=by
 funext i
 unfold UG
 split
 ·rfl
 ·rename_i h
  unfold A0
  rw [show decide (i < n) = false by simpa using h]
  rfl
theorem IG {p:Nat->Bool} {n b:Nat} (hb:b < n):Nj (UG p n b) b (ofNat (AZ p n b)) = UG p n (b+1):=by
 funext i
 unfold Nj UG
 by_cases hi:i = b
 ·subst hi
  rw [if_pos (Nat.lt_succ_self i),FS hb]
  simp
 ·rw [show decide (i = b) = false by simpa using hi]
  simp only [cond_false]
  by_cases h1:i < b
  ·rw [if_pos h1,if_pos (by omega)]
  ·rw [if_neg h1,if_neg (by omega)]
theorem N2 {p:Nat->Bool} {n z b:Nat} (h:AZ p n b < rN p n b):E3 p n z (b+1) = E3 p n z b ∧ rN p n (b+1) = rN p n b:=by
 have:rN p n (b+1) = rN p n b:=by rw [rN,if_pos h]
 exact ⟨by funext i; unfold E3; rw [this],this⟩
theorem Px {p:Nat->Bool} {n z b:Nat} (h:AZ p n b = rN p n b):A1 (rN p n b) (λi=>iV (E3 p n z b i)) (iV (ofNat (snN p n z (AZ p n b)))) = (λi=>iV (E3 p n z (b+1) i)) ∧ rN p n (b+1) = rN p n b+1:=by
 have hr:rN p n (b+1) = rN p n b+1:=by rw [rN,if_neg (by omega)]
 refine ⟨?_,hr⟩
 funext k
 rw [Bq,show Nat.beq k (rN p n b) = decide (k = rN p n b) by rw [Bool.eq_iff_iff]; simp]
 unfold E3
 rw [hr]
 by_cases hk:k = rN p n b
 ·rw [hk,h]; simp
 ·by_cases h2:k < rN p n b
  ·have:k < rN p n b+1:=by omega
   simp [hk,h2,this]
  ·have:¬ k < rN p n b+1:=by omega
   simp [hk,h2,this]
theorem So {p:Nat->Bool} {n z b:Nat} (hb:b < n) (h:AZ p n b < rN p n b):J5 (rN p n b) (E3 p n z b) (ofNat (snN p n z (AZ p n b))) = ofNat (AZ p n b):=by
 refine PO h ?_ λk hk=>?_
 ·unfold E3
  rw [if_pos h]
  simp [ieq]
 ·unfold E3
  rw [if_pos (by omega)]
  have:=Aen p n b (by omega) _ h
  cases he:ieq (ofNat (snN p n z (AZ p n b))) (ofNat (snN p n z k)) with
  | false=>rfl
  | true =>
   have he:=Int.ofNat.inj ((beq_iff_eq (α:=Int)).1 he)
   have:=YR (p:=p) (n:=n) (z:=z) (Nat.le_of_lt hk) this he.symm
   omega
theorem Sp {p:Nat->Bool} {n z b:Nat} (hb:b < n) (h:AZ p n b = rN p n b):J5 (rN p n b) (E3 p n z b) (ofNat (snN p n z (AZ p n b))) = -1:=by
 refine Tj λk hk=>?_
 unfold E3
 rw [if_pos hk]
 cases he:ieq (ofNat (snN p n z (AZ p n b))) (ofNat (snN p n z k)) with
 | false=>rfl
 | true =>
  have he:=Int.ofNat.inj ((beq_iff_eq (α:=Int)).1 he)
  have:=YR (p:=p) (n:=n) (z:=z) (show k <= AZ p n b by omega) (NH (by omega)) he.symm
  omega
def PJ (n:Nat) (f:Nat->E6):Lp:=⟨(bmK 97 0 [0,1,4,5,6,18,19]),1,bmK 97 0 [0,1,4,5,6],1,n+1⟩
def Sj (n:Nat) (f:Nat->E6) (b:Nat) (j:Nat->V):St:=⟨(jsV 97 0 j [(0,.sl 6 n λi=>eV (f i)),(1,.fn 52 []),(4,.ref 0),(5,nV n),(6,iV 0),(18,nV n),(19,nV b)]),[.row 3 1 0 (λ_=>.und)]⟩
def O9 (n:Nat) (f:Nat->E6) (b:Nat):Ex × St:=(.ex 0,⟨(jsV 97 0 (λ_=>.und) [(0,.sl 6 n λi=>eV (f i)),(1,.fn 52 []),(4,.ref 0),(5,nV n),(6,nV b)]),[.row 3 1 0 (λ_=>.und)]⟩)
noncomputable def KX (L:LT):St->T (Ex × St):=λst=>AC tab ⟨Am tb53,L,Gl⟩ (Au Try.f53 0) 0 st
section
variable (L:LT) (n:Nat) (f:Nat->E6) (b:Nat)  (j:Nat->V)
include L n f b j
theorem Agu (h0:ilt (ofNat b) (ofNat n) = true) (h1:ieq (ofNat n) 0 = false) (h13:Ak (ile 0 (Ae (wr .i64 (AK (wr .i64 (Af (ofNat b) (ofNat n))) 1)) (ofNat n))) (ilt (Ae (wr .i64 (AK (wr .i64 (Af (ofNat b) (ofNat n))) 1)) (ofNat n)) (ofNat n)) = true) (h2:Ax (f (toN (Ae (wr .i64 (AK (wr .i64 (Af (ofNat b) (ofNat n))) 1)) (ofNat n)))) = false):Ah (KX L) (PJ n f) (Sj n f b j) = some (.nm,⟨(jsV 97 0 (λ_=>.und) [(0,(.sl 6 n (λi=>(eV (f i))))),(1,(.fn 52 [])),(4,(.ref 0)),(5,(nV n)),(6,(iV 0)),(18,(nV n)),(19,(iV (wr .i64 (Af (ofNat b) 1))))]),[r3Z]⟩):=by
 exact Aa (ks:=[kn h0,kn h1,kn h13,kn h2]) (by kernel_rfl)
theorem Ags (h0:ilt (ofNat b) (ofNat n) = true) (h1:ieq (ofNat n) 0 = false) (h13:Ak (ile 0 (Ae (wr .i64 (AK (wr .i64 (Af (ofNat b) (ofNat n))) 1)) (ofNat n))) (ilt (Ae (wr .i64 (AK (wr .i64 (Af (ofNat b) (ofNat n))) 1)) (ofNat n)) (ofNat n)) = true) (h2:Ax (f (toN (Ae (wr .i64 (AK (wr .i64 (Af (ofNat b) (ofNat n))) 1)) (ofNat n)))) = true):Ah (KX L) (PJ n f) (Sj n f b j) = some ((.ex 0),⟨(jsV 97 0 (λ_=>.und) [(0,(.sl 6 n (λi=>(eV (f i))))),(1,(.fn 52 [])),(4,(.ref 0)),(5,(nV n)),(6,(nV b))]),[r3Z]⟩):=by
 exact Aa (ks:=[kn h0,kn h1,kn h13,kn h2]) (by kernel_rfl)
theorem Agw (h0:ilt (ofNat b) (ofNat n) = false):Ah (KX L) (PJ n f) (Sj n f b j) = some ((.ex 0),⟨(jsV 97 0 (λ_=>.und) [(0,(.sl 6 n (λi=>(eV (f i))))),(1,(.fn 52 [])),(4,(.ref 0)),(5,(nV n)),(6,(iV 0))]),[r3Z]⟩):=by
 exact Aa (ks:=[kn h0]) (by kernel_rfl)
end
def Alz (n:Nat) (f:Nat->E6) :Nat->V:=lkV A9 [(16,(.sl 6 n (λi=>eV (f i)))),(17,(nV n))]
def Hj (n:Nat) (f:Nat->E6):Lp:=⟨(bmK 97 0 [0,1,4,5,6,8,9,37,38]),2,bmK 97 0 [0,1,4,5,8],2,n+1⟩
def I1 (n:Nat) (f:Nat->E6) (z b k:Nat) (g:Nat->Int) (j:Nat->V):St:=⟨(jsV 97 0 j [(0,.sl 6 n λi=>eV (f i)),(1,.fn 52 []),(4,.ref 0),(5,nV n),(6,nV z),(8,.ref 1),(9,nV k),(37,nV n),(38,nV b)]),[.row 3 1 0 (λ_=>.und),.row 3 1 n (λi=>iV (g i))]⟩
def Ij (n:Nat) (f:Nat->E6) (z b k:Nat) (g:Nat->Int):Ex × St:=(.ex 2,⟨(jsV 97 0 (λ_=>.und) [(0,.sl 6 n λi=>eV (f i)),(1,.fn 52 []),(4,.ref 0),(5,nV n),(8,.ref 1)]),[.row 3 1 0 (λ_=>.und),.row 3 1 n (λi=>iV (g i))]⟩)
noncomputable def Fr (L:LT):St->T (Ex × St):=λst=>AC tab ⟨Am tb53,L,Gl⟩ (Au Try.f53 2) 2 st
section
variable (L:LT) (n:Nat) (f:Nat->E6) (z b k:Nat) (g:Nat->Int)  (j:Nat->V)
include L n f z b k g j
theorem Agk (h0:ilt (ofNat b) (ofNat n) = true) (h1:ieq (ofNat n) 0 = false) (h2:ilt 0 (ofNat b) = false) (h13:Ak (ile 0 (Ae (wr .i64 (Af (ofNat z) (ofNat b))) (ofNat n))) (ilt (Ae (wr .i64 (Af (ofNat z) (ofNat b))) (ofNat n)) (ofNat n)) = true) (h14:nlt (toN (Ae (wr .i64 (Af (ofNat z) (ofNat b))) (ofNat n))) n = true):Ah (Fr L) (Hj n f) (I1 n f z b k g j) = some (.nm,⟨(jsV 97 0 (λ_=>.und) [(0,(.sl 6 n (λi=>(eV (f i))))),(1,(.fn 52 [])),(4,(.ref 0)),(5,(nV n)),(6,(nV z)),(8,(.ref 1)),(9,(nV k)),(37,(nV n)),(38,(iV (wr .i64 (Af (ofNat b) 1))))]),[r3Z,(.row 3 1 n (Bu (λi=>(iV (g i))) (toN (Ae (wr .i64 (Af (ofNat z) (ofNat b))) (ofNat n))) (nV k)))]⟩):=by
 exact Aa (ks:=[kn h0,kn h1,kn h2,kn h2,kn h2,kn h2,kn h2,kn h2,kn h2,kn h2,kn h2,kn h2,kn h2,kn h2,kF,kn h13,kn h14]) (by kernel_rfl)
theorem Ago (h0:ilt (ofNat b) (ofNat n) = true) (h1:ieq (ofNat n) 0 = false) (h2:ilt 0 (ofNat b) = true) (h14:Ak (ile 0 (Ae (wr .i64 (AK (wr .i64 (Af (Ae (wr .i64 (Af (ofNat z) (ofNat b))) (ofNat n)) (ofNat n))) 1)) (ofNat n))) (ilt (Ae (wr .i64 (AK (wr .i64 (Af (Ae (wr .i64 (Af (ofNat z) (ofNat b))) (ofNat n)) (ofNat n))) 1)) (ofNat n)) (ofNat n)) = true) (h3:Ax (f (toN (Ae (wr .i64 (AK (wr .i64 (Af (Ae (wr .i64 (Af (ofNat z) (ofNat b))) (ofNat n)) (ofNat n))) 1)) (ofNat n)))) = false) (h16:Ak (ile 0 (Ae (wr .i64 (Af (ofNat z) (ofNat b))) (ofNat n))) (ilt (Ae (wr .i64 (Af (ofNat z) (ofNat b))) (ofNat n)) (ofNat n)) = true) (h17:nlt (toN (Ae (wr .i64 (Af (ofNat z) (ofNat b))) (ofNat n))) n = true):Ah (Fr L) (Hj n f) (I1 n f z b k g j) = some (.nm,⟨(jsV 97 0 (λ_=>.und) [(0,(.sl 6 n (λi=>(eV (f i))))),(1,(.fn 52 [])),(4,(.ref 0)),(5,(nV n)),(6,(nV z)),(8,(.ref 1)),(9,(nV k)),(37,(nV n)),(38,(iV (wr .i64 (Af (ofNat b) 1))))]),[r3Z,(.row 3 1 n (Bu (λi=>(iV (g i))) (toN (Ae (wr .i64 (Af (ofNat z) (ofNat b))) (ofNat n))) (nV k)))]⟩):=by
 exact Aa (ks:=[kn h0,kn h1,kn h2,kn h2,kn h2,kn h2,kn h2,kn h2,kn h2,kn h2,kn h1,kn h2,kn h14,kn h2,kn h2,kn h2,kn h3,kn h16,kn h17]) (by kernel_rfl)
theorem Agm (h0:ilt (ofNat b) (ofNat n) = true) (h1:ieq (ofNat n) 0 = false) (h2:ilt 0 (ofNat b) = true) (h14:Ak (ile 0 (Ae (wr .i64 (AK (wr .i64 (Af (Ae (wr .i64 (Af (ofNat z) (ofNat b))) (ofNat n)) (ofNat n))) 1)) (ofNat n))) (ilt (Ae (wr .i64 (AK (wr .i64 (Af (Ae (wr .i64 (Af (ofNat z) (ofNat b))) (ofNat n)) (ofNat n))) 1)) (ofNat n)) (ofNat n)) = true) (h3:Ax (f (toN (Ae (wr .i64 (AK (wr .i64 (Af (Ae (wr .i64 (Af (ofNat z) (ofNat b))) (ofNat n)) (ofNat n))) 1)) (ofNat n)))) = true) (h16:Ak (ile 0 (Ae (wr .i64 (Af (ofNat z) (ofNat b))) (ofNat n))) (ilt (Ae (wr .i64 (Af (ofNat z) (ofNat b))) (ofNat n)) (ofNat n)) = true) (h17:nlt (toN (Ae (wr .i64 (Af (ofNat z) (ofNat b))) (ofNat n))) n = true):Ah (Fr L) (Hj n f) (I1 n f z b k g j) = some (.nm,⟨(jsV 97 0 (λ_=>.und) [(0,(.sl 6 n (λi=>(eV (f i))))),(1,(.fn 52 [])),(4,(.ref 0)),(5,(nV n)),(6,(nV z)),(8,(.ref 1)),(9,(iV (wr .i64 (Af (ofNat k) 1)))),(37,(nV n)),(38,(iV (wr .i64 (Af (ofNat b) 1))))]),[r3Z,(.row 3 1 n (Bu (λi=>(iV (g i))) (toN (Ae (wr .i64 (Af (ofNat z) (ofNat b))) (ofNat n))) (iV (wr .i64 (Af (ofNat k) 1)))))]⟩):=by
 exact Aa (ks:=[kn h0,kn h1,kn h2,kn h2,kn h2,kn h2,kn h2,kn h2,kn h2,kn h2,kn h1,kn h2,kn h14,kn h2,kn h2,kn h2,kn h3,kn h16,kn h17]) (by kernel_rfl)
theorem Agq (h0:ilt (ofNat b) (ofNat n) = false):Ah (Fr L) (Hj n f) (I1 n f z b k g j) = some ((.ex 2),⟨(jsV 97 0 (λ_=>.und) [(0,(.sl 6 n (λi=>(eV (f i))))),(1,(.fn 52 [])),(4,(.ref 0)),(5,(nV n)),(8,(.ref 1))]),[r3Z,(.row 3 1 n (λi=>(iV (g i))))]⟩):=by
 exact Aa (ks:=[kn h0]) (by kernel_rfl)
end
def AaP (n:Nat) (f:Nat->E6) (z:Nat):St:=⟨(jsV 97 0 (λ_=>.und) [(0,(.sl 6 n (λi=>eV (f i)))),(1,(.fn 52 [])),(4,(.ref 0)),(5,(nV n)),(6,(nV z)),(8,(.ref 1)),(9,(iV 0)),(35,(nV n)),(36,(.ref 1)),(37,(nV n)),(38,(iV 0))]),[r3Z,.row 3 1 n (λ_=>iV 0)]⟩
def II (n:Nat) (f:Nat->E6):Lp:=⟨(bmK 97 0 [4,8,12,13,70,71]),4,bmK 97 0 [13],4,n+1⟩
def JY (n:Nat) (f:Nat->E6) (b r:Nat) (g s o:Nat->Int) (j:Nat->V):St:=⟨(jsV 97 0 j [(4,.ref 0),(8,.ref 1),(12,.ref 2),(13,.ref 3),(70,nV n),(71,nV b)]),[.row 3 1 0 (λ_=>.und),.row 3 1 n (λi=>iV (g i)),.row 3 1 r (λi=>iV (s i)),.row 3 1 n (λi=>iV (o i))]⟩
def Ih (n:Nat) (f:Nat->E6) (b r:Nat) (g s o:Nat->Int):Ex × St:=(.ex 4,⟨(jsV 97 0 (λ_=>.und) [(13,.ref 3)]),[.row 3 1 0 (λ_=>.und),.row 3 1 n (λi=>iV (g i)),.row 3 1 r (λi=>iV (s i)),.row 3 1 n (λi=>iV (o i))]⟩)
noncomputable def GQ (L:LT):St->T (Ex × St):=λst=>AC tab ⟨Am tb53,L,Gl⟩ (Au Try.f53 4) 4 st
section
variable (L:LT) (n:Nat) (f:Nat->E6) (b r:Nat) (g s o:Nat->Int)  (j:Nat->V)
include L n f b r g s o j
theorem Age (h0:ilt (ofNat b) (ofNat n) = true) (h13:ile 0 (ofNat b) = true) (h1:nlt b n = true) (h2:DZ r = true) (h3:ilt (J5 r s (g b)) 0 = false):Ah (GQ L) (II n f) (JY n f b r g s o j) = some (.nm,⟨(jsV 97 0 (λ_=>.und) [(4,(.ref 0)),(8,(.ref 1)),(12,(.ref 2)),(13,(.ref 3)),(70,(nV n)),(71,(iV (wr .i64 (Af (ofNat b) 1))))]),[r3Z,(.row 3 1 n (λi=>(iV (g i)))),(.row 3 1 r (λi=>(iV (s i)))),(.row 3 1 n (Bu (λi=>(iV (o i))) b (iV (J5 r s (g b)))))]⟩):=by
 exact Aa (ks:=[kn h0,kA (kn h13) (kn h0),kn h1,kL r,kn h2,kn h3,kA (kn h13) (kn h0),kn h1]) (by kernel_rfl)
theorem Agg (h0:ilt (ofNat b) (ofNat n) = true) (h13:ile 0 (ofNat b) = true) (h1:nlt b n = true) (h2:DZ r = true) (h3:ilt (J5 r s (g b)) 0 = true) (h14:AY r 1 8 = true):Ah (GQ L) (II n f) (JY n f b r g s o j) = some (.nm,⟨(jsV 97 0 (λ_=>.und) [(4,(.ref 0)),(8,(.ref 1)),(12,(.ref 2)),(13,(.ref 3)),(70,(nV n)),(71,(iV (wr .i64 (Af (ofNat b) 1))))]),[r3Z,(.row 3 1 n (λi=>(iV (g i)))),(.row 3 1 (AQ r 1) (A1 r (λi=>(iV (s i))) (iV (g b)))),(.row 3 1 n (Bu (λi=>(iV (o i))) b (nV r)))]⟩):=by
 exact Aa (ks:=[kn h0,kA (kn h13) (kn h0),kn h1,kL r,kn h2,kn h3,kA (kn h13) (kn h0),kn h1,kn h14,kA (kn h13) (kn h0),kn h1]) (by kernel_rfl)
theorem Agi (h0:ilt (ofNat b) (ofNat n) = false):Ah (GQ L) (II n f) (JY n f b r g s o j) = some ((.ex 4),⟨(jsV 97 0 (λ_=>.und) [(13,(.ref 3))]),[r3Z,(.row 3 1 n (λi=>(iV (g i)))),(.row 3 1 r (λi=>(iV (s i)))),(.row 3 1 n (λi=>(iV (o i))))]⟩):=by
 exact Aa (ks:=[kn h0]) (by kernel_rfl)
end
def Aa3 (n:Nat) (f:Nat->E6) (z:Nat) (g:Nat->Int):St:=⟨(jsV 97 0 (λ_=>.und) [(0,(.sl 6 n (λi=>eV (f i)))),(1,(.fn 52 [])),(4,(.ref 0)),(5,(nV n)),(8,(.ref 1)),(12,(.ref 2)),(13,(.ref 3)),(68,(nV n)),(69,(.ref 3)),(70,(nV n)),(71,(iV 0))]),[r3Z,.row 3 1 n (λi=>iV (g i)),r3Z,.row 3 1 n (λ_=>iV 0)]⟩
theorem Ai5 (L:LT) (p0:PT) (p2:PT) (p4:PT) (n:Nat) (f:Nat->E6) (z:Nat) (g:Nat->Int) (r:Nat) (gg ss o:Nat->Int) (h0:CG 8 (ofNat n) (ofNat n) = true) (hp0:p0 (KX (onP 0 p0 (O9 n f z) (onP 2 p2 (Ij n f z 0 0 g) (onP 4 p4 (Ih n f 0 r gg ss o) L)))) (Sj n f 0 (Alz n f )) = true) (hp2:p2 (Fr (onP 0 p0 (O9 n f z) (onP 2 p2 (Ij n f z 0 0 g) (onP 4 p4 (Ih n f 0 r gg ss o) L)))) (AaP n f z) = true) (hp4:p4 (GQ (onP 0 p0 (O9 n f z) (onP 2 p2 (Ij n f z 0 0 g) (onP 4 p4 (Ih n f 0 r gg ss o) L)))) (Aa3 n f z g) = true):(Ar (Ai tab ⟨Am tb53,(onP 0 p0 (O9 n f z) (onP 2 p2 (Ij n f z 0 0 g) (onP 4 p4 (Ih n f 0 r gg ss o) L))),Gl⟩ Try.f53 [.sl 6 n λi=>eV (f i),.fn 52 []] [])).sem = some ((.ref 0),[(.row 3 1 n (λi=>(iV (o i))))]):=by
 exact Aa (ks:=[kn hp0,kn h0,kn hp2,kn h0,kn hp4]) (by kernel_rfl)
def PI (n:Nat) (f:Nat->E6):Lp:=⟨(bmK 97 0 [0,1,4,5,6,18,19]),1,bmK 97 0 [0,1,4,5,6],1,n+1⟩
def Si (n:Nat) (f:Nat->E6) (b:Nat) (j:Nat->V):St:=⟨(jsV 97 0 j [(0,.sl 6 n λi=>eV (f i)),(1,.fn 54 []),(4,.ref 0),(5,nV n),(6,iV 0),(18,nV n),(19,nV b)]),[.row 3 1 0 (λ_=>.und)]⟩
def O8 (n:Nat) (f:Nat->E6) (b:Nat):Ex × St:=(.ex 0,⟨(jsV 97 0 (λ_=>.und) [(0,.sl 6 n λi=>eV (f i)),(1,.fn 54 []),(4,.ref 0),(5,nV n),(6,nV b)]),[.row 3 1 0 (λ_=>.und)]⟩)
noncomputable def KW (L:LT):St->T (Ex × St):=λst=>AC tab ⟨Am tb53,L,Gl⟩ (Au Try.f53 0) 0 st
section
variable (L:LT) (n:Nat) (f:Nat->E6) (b:Nat)  (j:Nat->V)
include L n f b j
theorem Agt (h0:ilt (ofNat b) (ofNat n) = true) (h1:ieq (ofNat n) 0 = false) (h13:Ak (ile 0 (Ae (wr .i64 (AK (wr .i64 (Af (ofNat b) (ofNat n))) 1)) (ofNat n))) (ilt (Ae (wr .i64 (AK (wr .i64 (Af (ofNat b) (ofNat n))) 1)) (ofNat n)) (ofNat n)) = true) (h2:Aw (f (toN (Ae (wr .i64 (AK (wr .i64 (Af (ofNat b) (ofNat n))) 1)) (ofNat n)))) = false):Ah (KW L) (PI n f) (Si n f b j) = some (.nm,⟨(jsV 97 0 (λ_=>.und) [(0,(.sl 6 n (λi=>(eV (f i))))),(1,(.fn 54 [])),(4,(.ref 0)),(5,(nV n)),(6,(iV 0)),(18,(nV n)),(19,(iV (wr .i64 (Af (ofNat b) 1))))]),[r3Z]⟩):=by
 exact Aa (ks:=[kn h0,kn h1,kn h13,kn h2]) (by kernel_rfl)
theorem Agr (h0:ilt (ofNat b) (ofNat n) = true) (h1:ieq (ofNat n) 0 = false) (h13:Ak (ile 0 (Ae (wr .i64 (AK (wr .i64 (Af (ofNat b) (ofNat n))) 1)) (ofNat n))) (ilt (Ae (wr .i64 (AK (wr .i64 (Af (ofNat b) (ofNat n))) 1)) (ofNat n)) (ofNat n)) = true) (h2:Aw (f (toN (Ae (wr .i64 (AK (wr .i64 (Af (ofNat b) (ofNat n))) 1)) (ofNat n)))) = true):Ah (KW L) (PI n f) (Si n f b j) = some ((.ex 0),⟨(jsV 97 0 (λ_=>.und) [(0,(.sl 6 n (λi=>(eV (f i))))),(1,(.fn 54 [])),(4,(.ref 0)),(5,(nV n)),(6,(nV b))]),[r3Z]⟩):=by
 exact Aa (ks:=[kn h0,kn h1,kn h13,kn h2]) (by kernel_rfl)
theorem Agv (h0:ilt (ofNat b) (ofNat n) = false):Ah (KW L) (PI n f) (Si n f b j) = some ((.ex 0),⟨(jsV 97 0 (λ_=>.und) [(0,(.sl 6 n (λi=>(eV (f i))))),(1,(.fn 54 [])),(4,(.ref 0)),(5,(nV n)),(6,(iV 0))]),[r3Z]⟩):=by
 exact Aa (ks:=[kn h0]) (by kernel_rfl)
end
def Aly (n:Nat) (f:Nat->E6) :Nat->V:=lkV A9 [(16,(.sl 6 n (λi=>eV (f i)))),(17,(nV n))]
def Hi (n:Nat) (f:Nat->E6):Lp:=⟨(bmK 97 0 [0,1,4,5,6,8,9,37,38]),2,bmK 97 0 [0,1,4,5,8],2,n+1⟩
def I0 (n:Nat) (f:Nat->E6) (z b k:Nat) (g:Nat->Int) (j:Nat->V):St:=⟨(jsV 97 0 j [(0,.sl 6 n λi=>eV (f i)),(1,.fn 54 []),(4,.ref 0),(5,nV n),(6,nV z),(8,.ref 1),(9,nV k),(37,nV n),(38,nV b)]),[.row 3 1 0 (λ_=>.und),.row 3 1 n (λi=>iV (g i))]⟩
def Ii (n:Nat) (f:Nat->E6) (z b k:Nat) (g:Nat->Int):Ex × St:=(.ex 2,⟨(jsV 97 0 (λ_=>.und) [(0,.sl 6 n λi=>eV (f i)),(1,.fn 54 []),(4,.ref 0),(5,nV n),(8,.ref 1)]),[.row 3 1 0 (λ_=>.und),.row 3 1 n (λi=>iV (g i))]⟩)
noncomputable def Fq (L:LT):St->T (Ex × St):=λst=>AC tab ⟨Am tb53,L,Gl⟩ (Au Try.f53 2) 2 st
section
variable (L:LT) (n:Nat) (f:Nat->E6) (z b k:Nat) (g:Nat->Int)  (j:Nat->V)
include L n f z b k g j
theorem Agj (h0:ilt (ofNat b) (ofNat n) = true) (h1:ieq (ofNat n) 0 = false) (h2:ilt 0 (ofNat b) = false) (h13:Ak (ile 0 (Ae (wr .i64 (Af (ofNat z) (ofNat b))) (ofNat n))) (ilt (Ae (wr .i64 (Af (ofNat z) (ofNat b))) (ofNat n)) (ofNat n)) = true) (h14:nlt (toN (Ae (wr .i64 (Af (ofNat z) (ofNat b))) (ofNat n))) n = true):Ah (Fq L) (Hi n f) (I0 n f z b k g j) = some (.nm,⟨(jsV 97 0 (λ_=>.und) [(0,(.sl 6 n (λi=>(eV (f i))))),(1,(.fn 54 [])),(4,(.ref 0)),(5,(nV n)),(6,(nV z)),(8,(.ref 1)),(9,(nV k)),(37,(nV n)),(38,(iV (wr .i64 (Af (ofNat b) 1))))]),[r3Z,(.row 3 1 n (Bu (λi=>(iV (g i))) (toN (Ae (wr .i64 (Af (ofNat z) (ofNat b))) (ofNat n))) (nV k)))]⟩):=by
 exact Aa (ks:=[kn h0,kn h1,kn h2,kn h2,kn h2,kn h2,kn h2,kn h2,kn h2,kn h2,kn h2,kn h2,kn h2,kn h2,kF,kn h13,kn h14]) (by kernel_rfl)
theorem Agn (h0:ilt (ofNat b) (ofNat n) = true) (h1:ieq (ofNat n) 0 = false) (h2:ilt 0 (ofNat b) = true) (h14:Ak (ile 0 (Ae (wr .i64 (AK (wr .i64 (Af (Ae (wr .i64 (Af (ofNat z) (ofNat b))) (ofNat n)) (ofNat n))) 1)) (ofNat n))) (ilt (Ae (wr .i64 (AK (wr .i64 (Af (Ae (wr .i64 (Af (ofNat z) (ofNat b))) (ofNat n)) (ofNat n))) 1)) (ofNat n)) (ofNat n)) = true) (h3:Aw (f (toN (Ae (wr .i64 (AK (wr .i64 (Af (Ae (wr .i64 (Af (ofNat z) (ofNat b))) (ofNat n)) (ofNat n))) 1)) (ofNat n)))) = false) (h16:Ak (ile 0 (Ae (wr .i64 (Af (ofNat z) (ofNat b))) (ofNat n))) (ilt (Ae (wr .i64 (Af (ofNat z) (ofNat b))) (ofNat n)) (ofNat n)) = true) (h17:nlt (toN (Ae (wr .i64 (Af (ofNat z) (ofNat b))) (ofNat n))) n = true):Ah (Fq L) (Hi n f) (I0 n f z b k g j) = some (.nm,⟨(jsV 97 0 (λ_=>.und) [(0,(.sl 6 n (λi=>(eV (f i))))),(1,(.fn 54 [])),(4,(.ref 0)),(5,(nV n)),(6,(nV z)),(8,(.ref 1)),(9,(nV k)),(37,(nV n)),(38,(iV (wr .i64 (Af (ofNat b) 1))))]),[r3Z,(.row 3 1 n (Bu (λi=>(iV (g i))) (toN (Ae (wr .i64 (Af (ofNat z) (ofNat b))) (ofNat n))) (nV k)))]⟩):=by
 exact Aa (ks:=[kn h0,kn h1,kn h2,kn h2,kn h2,kn h2,kn h2,kn h2,kn h2,kn h2,kn h1,kn h2,kn h14,kn h2,kn h2,kn h2,kn h3,kn h16,kn h17]) (by kernel_rfl)
theorem Agl (h0:ilt (ofNat b) (ofNat n) = true) (h1:ieq (ofNat n) 0 = false) (h2:ilt 0 (ofNat b) = true) (h14:Ak (ile 0 (Ae (wr .i64 (AK (wr .i64 (Af (Ae (wr .i64 (Af (ofNat z) (ofNat b))) (ofNat n)) (ofNat n))) 1)) (ofNat n))) (ilt (Ae (wr .i64 (AK (wr .i64 (Af (Ae (wr .i64 (Af (ofNat z) (ofNat b))) (ofNat n)) (ofNat n))) 1)) (ofNat n)) (ofNat n)) = true) (h3:Aw (f (toN (Ae (wr .i64 (AK (wr .i64 (Af (Ae (wr .i64 (Af (ofNat z) (ofNat b))) (ofNat n)) (ofNat n))) 1)) (ofNat n)))) = true) (h16:Ak (ile 0 (Ae (wr .i64 (Af (ofNat z) (ofNat b))) (ofNat n))) (ilt (Ae (wr .i64 (Af (ofNat z) (ofNat b))) (ofNat n)) (ofNat n)) = true) (h17:nlt (toN (Ae (wr .i64 (Af (ofNat z) (ofNat b))) (ofNat n))) n = true):Ah (Fq L) (Hi n f) (I0 n f z b k g j) = some (.nm,⟨(jsV 97 0 (λ_=>.und) [(0,(.sl 6 n (λi=>(eV (f i))))),(1,(.fn 54 [])),(4,(.ref 0)),(5,(nV n)),(6,(nV z)),(8,(.ref 1)),(9,(iV (wr .i64 (Af (ofNat k) 1)))),(37,(nV n)),(38,(iV (wr .i64 (Af (ofNat b) 1))))]),[r3Z,(.row 3 1 n (Bu (λi=>(iV (g i))) (toN (Ae (wr .i64 (Af (ofNat z) (ofNat b))) (ofNat n))) (iV (wr .i64 (Af (ofNat k) 1)))))]⟩):=by
 exact Aa (ks:=[kn h0,kn h1,kn h2,kn h2,kn h2,kn h2,kn h2,kn h2,kn h2,kn h2,kn h1,kn h2,kn h14,kn h2,kn h2,kn h2,kn h3,kn h16,kn h17]) (by kernel_rfl)
theorem Agp (h0:ilt (ofNat b) (ofNat n) = false):Ah (Fq L) (Hi n f) (I0 n f z b k g j) = some ((.ex 2),⟨(jsV 97 0 (λ_=>.und) [(0,(.sl 6 n (λi=>(eV (f i))))),(1,(.fn 54 [])),(4,(.ref 0)),(5,(nV n)),(8,(.ref 1))]),[r3Z,(.row 3 1 n (λi=>(iV (g i))))]⟩):=by
 exact Aa (ks:=[kn h0]) (by kernel_rfl)
end
def AaO (n:Nat) (f:Nat->E6) (z:Nat):St:=⟨(jsV 97 0 (λ_=>.und) [(0,(.sl 6 n (λi=>eV (f i)))),(1,(.fn 54 [])),(4,(.ref 0)),(5,(nV n)),(6,(nV z)),(8,(.ref 1)),(9,(iV 0)),(35,(nV n)),(36,(.ref 1)),(37,(nV n)),(38,(iV 0))]),[r3Z,.row 3 1 n (λ_=>iV 0)]⟩
def IH (n:Nat) (f:Nat->E6):Lp:=⟨(bmK 97 0 [4,8,12,13,70,71]),4,bmK 97 0 [13],4,n+1⟩
def JX (n:Nat) (f:Nat->E6) (b r:Nat) (g s o:Nat->Int) (j:Nat->V):St:=⟨(jsV 97 0 j [(4,.ref 0),(8,.ref 1),(12,.ref 2),(13,.ref 3),(70,nV n),(71,nV b)]),[.row 3 1 0 (λ_=>.und),.row 3 1 n (λi=>iV (g i)),.row 3 1 r (λi=>iV (s i)),.row 3 1 n (λi=>iV (o i))]⟩
def Ig (n:Nat) (f:Nat->E6) (b r:Nat) (g s o:Nat->Int):Ex × St:=(.ex 4,⟨(jsV 97 0 (λ_=>.und) [(13,.ref 3)]),[.row 3 1 0 (λ_=>.und),.row 3 1 n (λi=>iV (g i)),.row 3 1 r (λi=>iV (s i)),.row 3 1 n (λi=>iV (o i))]⟩)
noncomputable def GP (L:LT):St->T (Ex × St):=λst=>AC tab ⟨Am tb53,L,Gl⟩ (Au Try.f53 4) 4 st
section
variable (L:LT) (n:Nat) (f:Nat->E6) (b r:Nat) (g s o:Nat->Int)  (j:Nat->V)
include L n f b r g s o j
theorem Agd (h0:ilt (ofNat b) (ofNat n) = true) (h13:ile 0 (ofNat b) = true) (h1:nlt b n = true) (h2:DZ r = true) (h3:ilt (J5 r s (g b)) 0 = false):Ah (GP L) (IH n f) (JX n f b r g s o j) = some (.nm,⟨(jsV 97 0 (λ_=>.und) [(4,(.ref 0)),(8,(.ref 1)),(12,(.ref 2)),(13,(.ref 3)),(70,(nV n)),(71,(iV (wr .i64 (Af (ofNat b) 1))))]),[r3Z,(.row 3 1 n (λi=>(iV (g i)))),(.row 3 1 r (λi=>(iV (s i)))),(.row 3 1 n (Bu (λi=>(iV (o i))) b (iV (J5 r s (g b)))))]⟩):=by
 exact Aa (ks:=[kn h0,kA (kn h13) (kn h0),kn h1,kL r,kn h2,kn h3,kA (kn h13) (kn h0),kn h1]) (by kernel_rfl)
theorem Agf (h0:ilt (ofNat b) (ofNat n) = true) (h13:ile 0 (ofNat b) = true) (h1:nlt b n = true) (h2:DZ r = true) (h3:ilt (J5 r s (g b)) 0 = true) (h14:AY r 1 8 = true):Ah (GP L) (IH n f) (JX n f b r g s o j) = some (.nm,⟨(jsV 97 0 (λ_=>.und) [(4,(.ref 0)),(8,(.ref 1)),(12,(.ref 2)),(13,(.ref 3)),(70,(nV n)),(71,(iV (wr .i64 (Af (ofNat b) 1))))]),[r3Z,(.row 3 1 n (λi=>(iV (g i)))),(.row 3 1 (AQ r 1) (A1 r (λi=>(iV (s i))) (iV (g b)))),(.row 3 1 n (Bu (λi=>(iV (o i))) b (nV r)))]⟩):=by
 exact Aa (ks:=[kn h0,kA (kn h13) (kn h0),kn h1,kL r,kn h2,kn h3,kA (kn h13) (kn h0),kn h1,kn h14,kA (kn h13) (kn h0),kn h1]) (by kernel_rfl)
theorem Agh (h0:ilt (ofNat b) (ofNat n) = false):Ah (GP L) (IH n f) (JX n f b r g s o j) = some ((.ex 4),⟨(jsV 97 0 (λ_=>.und) [(13,(.ref 3))]),[r3Z,(.row 3 1 n (λi=>(iV (g i)))),(.row 3 1 r (λi=>(iV (s i)))),(.row 3 1 n (λi=>(iV (o i))))]⟩):=by
 exact Aa (ks:=[kn h0]) (by kernel_rfl)
end
def Aa2 (n:Nat) (f:Nat->E6) (z:Nat) (g:Nat->Int):St:=⟨(jsV 97 0 (λ_=>.und) [(0,(.sl 6 n (λi=>eV (f i)))),(1,(.fn 54 [])),(4,(.ref 0)),(5,(nV n)),(8,(.ref 1)),(12,(.ref 2)),(13,(.ref 3)),(68,(nV n)),(69,(.ref 3)),(70,(nV n)),(71,(iV 0))]),[r3Z,.row 3 1 n (λi=>iV (g i)),r3Z,.row 3 1 n (λ_=>iV 0)]⟩
theorem Ai4 (L:LT) (p0:PT) (p2:PT) (p4:PT) (n:Nat) (f:Nat->E6) (z:Nat) (g:Nat->Int) (r:Nat) (gg ss o:Nat->Int) (h0:CG 8 (ofNat n) (ofNat n) = true) (hp0:p0 (KW (onP 0 p0 (O8 n f z) (onP 2 p2 (Ii n f z 0 0 g) (onP 4 p4 (Ig n f 0 r gg ss o) L)))) (Si n f 0 (Aly n f )) = true) (hp2:p2 (Fq (onP 0 p0 (O8 n f z) (onP 2 p2 (Ii n f z 0 0 g) (onP 4 p4 (Ig n f 0 r gg ss o) L)))) (AaO n f z) = true) (hp4:p4 (GP (onP 0 p0 (O8 n f z) (onP 2 p2 (Ii n f z 0 0 g) (onP 4 p4 (Ig n f 0 r gg ss o) L)))) (Aa2 n f z g) = true):(Ar (Ai tab ⟨Am tb53,(onP 0 p0 (O8 n f z) (onP 2 p2 (Ii n f z 0 0 g) (onP 4 p4 (Ig n f 0 r gg ss o) L))),Gl⟩ Try.f53 [.sl 6 n λi=>eV (f i),.fn 54 []] [])).sem = some ((.ref 0),[(.row 3 1 n (λi=>(iV (o i))))]):=by
 exact Aa (ks:=[kn hp0,kn h0,kn hp2,kn h0,kn hp4]) (by kernel_rfl)
theorem Zi (L:LT) (n:Nat) (f:Nat->E6) (hn:n <= 4611686018427387903):∀ (e i:Nat) (j:Nat->V) (q:Nat),n = i+e->e < q->(∀ k,k < i->(λk=>Ax (f k)) ((k+(n - 1)) % n) = false) ->
  (A4 (KX L) (PJ n f) q (Sj n f i j)).sem = some (O9 n f (Ch (λk=>Ax (f k)) n))
 | 0,i,j,q+1,h,_,hb=>by
  have:n = i:=by omega
  subst this
  rw [OK hb]
  exact Ab (Agw L n f n j (A6 (Nat.le_refl _)))
 | e+1,i,j,q+1,h,h2,hb=>by
  have hl:i < n:=by omega
  have hx:=Jc (a:=i) (n:=n) (by omega) (by omega)
  have hin:Ak (ile 0 (Ae (wr .i64 (AK (wr .i64 (Af (ofNat i) (ofNat n))) 1)) (ofNat n))) (ilt (Ae (wr .i64 (AK (wr .i64 (Af (ofNat i) (ofNat n))) 1)) (ofNat n)) (ofNat n)) = true:=by
   rw [hx]
   exact Ap (Nat.mod_lt _ (by omega))
  cases hp:Ax (f ((i+(n - 1)) % n)) with
  | true =>
   rw [TH (p:=λk=>Ax (f k)) hl hp hb]
   exact Ab (Ags L n f i j (ofNat_lt hl) (F7 (by omega)) hin (by rw [hx]; exact hp))
  | false =>
   rw [Ab (Agu L n f i j (ofNat_lt hl) (F7 (by omega)) hin (by rw [hx]; exact hp)),Aq,Ao hl (by omega)]
   refine Zi L n f hn e (i+1) (λ_=>.und) q (by omega) (by omega) λk hk=>?_
   by_cases hki:k = i
   ·rw [hki]; exact hp
   ·exact hb k (by omega)
theorem VW (L:LT) (n:Nat) (f:Nat->E6) (hn:n <= 4611686018427387903) (z:Nat) (hz:z < n):∀ (e b:Nat) (j:Nat->V) (q:Nat),n = b+e->e < q ->
  (A4 (Fr L) (Hj n f) q (I1 n f z b (Al (DP (λk=>Ax (f k)) n z) (b - 1)) (gN (λk=>Ax (f k)) n z b) j)).sem = some (Ij n f z 0 0 (gN (λk=>Ax (f k)) n z n))
 | 0,b,j,q+1,h,_=>by
  have:n = b:=by omega
  subst this
  exact Ab (Agq L n f z n _ _ j (A6 (Nat.le_refl _)))
 | e+1,b,j,q+1,h,h2=>by
  have hl:b < n:=by omega
  have hI:Ae (wr .i64 (Af (ofNat z) (ofNat b))) (ofNat n) = ofNat ((z+b) % n):=by rw [D9 (by omega),C5]
  have hlt:(z+b) % n < n:=Nat.mod_lt _ (by omega)
  have hin:Ak (ile 0 (Ae (wr .i64 (Af (ofNat z) (ofNat b))) (ofNat n))) (ilt (Ae (wr .i64 (Af (ofNat z) (ofNat b))) (ofNat n)) (ofNat n)) = true:=by
   rw [hI]
   exact Ap hlt
  have hnl:nlt (toN (Ae (wr .i64 (Af (ofNat z) (ofNat b))) (ofNat n))) n = true:=by
   rw [hI]
   exact decide_eq_true hlt
  have next:=VW L n f hn z hz e (b+1) (λ_=>.und) q (by omega) (by omega)
  rw [show b+1 - 1 = b by omega] at next
  cases b with
  | zero =>
   rw [Ab (Agk L n f z 0 _ _ j (ofNat_lt hl) (F7 (by omega)) rfl hin hnl),Aq,hI,Ao hl (by omega),show toN (ofNat ((z+0) % n)) = (z+0) % n from rfl,Cl]
   have hs:=MN (p:=λk=>Ax (f k)) hz hl
   rw [<- hs] at next
   exact next
  | succ b =>
   have hx:Ae (wr .i64 (AK (wr .i64 (Af (Ae (wr .i64 (Af (ofNat z) (ofNat (b+1)))) (ofNat n)) (ofNat n))) 1)) (ofNat n) = ofNat ((z+b) % n):=by
    rw [hI,Jc (by omega) (by omega),Qf hz (by omega)]
   have hxin:Ak (ile 0 (Ae (wr .i64 (AK (wr .i64 (Af (Ae (wr .i64 (Af (ofNat z) (ofNat (b+1)))) (ofNat n)) (ofNat n))) 1)) (ofNat n))) (ilt (Ae (wr .i64 (AK (wr .i64 (Af (Ae (wr .i64 (Af (ofNat z) (ofNat (b+1)))) (ofNat n)) (ofNat n))) 1)) (ofNat n)) (ofNat n)) = true:=by
    rw [hx]
    exact Ap (Nat.mod_lt _ (by omega))
   have hs:=MN (p:=λk=>Ax (f k)) hz hl
   have hc:=Be (DP (λk=>Ax (f k)) n z) b
   have h0:ilt 0 (ofNat (b+1)) = true:=by rw [show (0:Int) = ofNat 0 from rfl,Cs]; simp
   rw [show b+1 - 1 = b by omega]
   cases hp:Ax (f ((z+b) % n)) with
   | true =>
    rw [Ab (Agm L n f z (b+1) _ _ j (ofNat_lt hl) (F7 (by omega)) h0 hxin (by rw [hx]; exact hp) hin hnl),Aq,hI,Ao hl (by omega),show toN (ofNat ((z+(b+1)) % n)) = (z+(b+1)) % n from rfl,Ao (show Al (DP (λk=>Ax (f k)) n z) b < n by omega) (by omega),Cl,<- Bl (p:=DP (λk=>Ax (f k)) n z) (i:=b) hp,hs]
    exact next
   | false =>
    rw [Ab (Ago L n f z (b+1) _ _ j (ofNat_lt hl) (F7 (by omega)) h0 hxin (by rw [hx]; exact hp) hin hnl),Aq,hI,Ao hl (by omega),show toN (ofNat ((z+(b+1)) % n)) = (z+(b+1)) % n from rfl,Cl,<- By (p:=DP (λk=>Ax (f k)) n z) (i:=b) hp,hs]
    exact next
theorem VU (L:LT) (n:Nat) (f:Nat->E6) (p:Nat->Bool) (hn:n * 8 <= 140737488355328) (z:Nat) (g:Nat->Int) (hg:∀ i,i < n->g i = ofNat (snN p n z (AZ p n i))):∀ (e b:Nat) (j:Nat->V) (q:Nat),n = b+e->e < q ->
  (A4 (GQ L) (II n f) q (JY n f b (rN p n b) g (E3 p n z b) (UG p n b) j)).sem = some (Ih n f 0 (rN p n n) g (E3 p n z n) (A0 p n))
 | 0,b,j,q+1,h,_=>by
  have:n = b:=by omega
  subst this
  rw [<- ZA p n]
  exact Ab (Agi L n f n _ _ _ _ j (A6 (Nat.le_refl _)))
 | e+1,b,j,q+1,h,h2=>by
  have hl:b < n:=by omega
  have hr:=S3 p n b
  have h8:DZ (rN p n b) = true:=by
   unfold DZ
   simp
   omega
  have hnl:nlt b n = true:=by simpa [nlt] using hl
  have next:=VU L n f p hn z g hg e (b+1) (λ_=>.und) q (by omega) (by omega)
  rcases Nat.lt_or_ge (AZ p n b) (rN p n b) with hc | hc
  ·have hi:=So (z:=z) hl hc
   rw [<- hg b hl] at hi
   obtain ⟨e1,e2⟩:=N2 (z:=z) hc
   rw [Ab (Age L n f b _ g _ _ j (ofNat_lt hl) (AF b) hnl h8 (by rw [hi]; simp [ilt])),Aq,Ao hl (by omega),hi,Cl,IG hl]
   rw [e1,e2] at next
   exact next
  ·have hc:AZ p n b = rN p n b:=Nat.le_antisymm (Kh p n b hl) hc
   have hi:=Sp (z:=z) hl hc
   rw [<- hg b hl] at hi
   obtain ⟨e1,e2⟩:=Px (z:=z) hc
   rw [<- hg b hl] at e1
   rw [Ab (Agg L n f b _ g _ _ j (ofNat_lt hl) (AF b) hnl h8 (by rw [hi]; rfl) (BH (by omega))),Aq,Ao hl (by omega),e1,Cl,<- hc,IG hl]
   rw [e2,<- hc] at next
   exact next
def VE:List (Nat × List (Nat × V)):=[(4,[(2,iV 0)])]
def QT (n:Nat) (f:Nat->E6):List (Nat × Lp):=[(0,PJ n f),(2,Hj n f),(4,II n f)]
theorem Ad6 (n:Nat) (f:Nat->E6) (z:Nat) (g:Nat->Int):CU (Aa3 n f z g) [(2,iV 0)] = JY n f 0 0 g (λ_=>0) (λ_=>0) (λi=>nth (Aa3 n f z g).t i):=by kernel_rfl
theorem Aij (n:Nat) (f:Nat->E6) (z:Nat):AaP n f z = I1 n f z 0 0 (λ_=>0) (λi=>nth (AaP n f z).t i):=by kernel_rfl
theorem AbE (n:Nat) (f:Nat->E6) (hp:0 < n) (h8:n * 8 <= 140737488355328) (hm:CG 8 (ofNat n) (ofNat n) = true) :
  (Ar (Ai tab (cxZ Gl tb53 VE (QT n f)) Try.f53 [Az n f,.fn 52 []] [])).sem = some (.ref 0,[.row 3 1 n λk=>iV (A0 (λk=>Ax (f k)) n k)]):=by
 have hL:=DL VE (QT n f)
 have hz:=TG (λk=>Ax (f k)) hp
 have hb:=OJ (λk=>Ax (f k)) hp
 refine A2 (As (As (As hL hL) hL) hL) _ (Ai5 _ _ _ _ n f (Ch (λk=>Ax (f k)) n) (gN (λk=>Ax (f k)) n (Ch (λk=>Ax (f k)) n) n) (rN (λk=>Ax (f k)) n n) (gN (λk=>Ax (f k)) n (Ch (λk=>Ax (f k)) n) n) (E3 (λk=>Ax (f k)) n (Ch (λk=>Ax (f k)) n) n) (A0 (λk=>Ax (f k)) n) hm
  (Aj ?_) (Aj ?_) (Aj ?_))
 ·show (A4 _ (PJ n f) (n+1) _).sem = _
  exact Zi _ n f (by omega) n 0 _ (n+1) (by omega) (by omega) (λk hk=>absurd hk (Nat.not_lt_zero _))
 ·show (A4 _ (Hj n f) (n+1) _).sem = _
  rw [Aij]
  have h:=λL j=>VW L n f (by omega) _ hz n 0 j (n+1) (by omega) (by omega)
  simp only [Al7] at h
  exact h _ _
 ·show (A4 _ (II n f) (n+1) (CU _ [(2,iV 0)])).sem = _
  rw [Ad6]
  exact VU _ n f (λk=>Ax (f k)) h8 (Ch (λk=>Ax (f k)) n) _ (λi hi=>Aat hb hi) n 0 _ (n+1) (by omega) (by omega)
theorem Zh (L:LT) (n:Nat) (f:Nat->E6) (hn:n <= 4611686018427387903):∀ (e i:Nat) (j:Nat->V) (q:Nat),n = i+e->e < q->(∀ k,k < i->(λk=>Aw (f k)) ((k+(n - 1)) % n) = false) ->
  (A4 (KW L) (PI n f) q (Si n f i j)).sem = some (O8 n f (Ch (λk=>Aw (f k)) n))
 | 0,i,j,q+1,h,_,hb=>by
  have:n = i:=by omega
  subst this
  rw [OK hb]
  exact Ab (Agv L n f n j (A6 (Nat.le_refl _)))
 | e+1,i,j,q+1,h,h2,hb=>by
  have hl:i < n:=by omega
  have hx:=Jc (a:=i) (n:=n) (by omega) (by omega)
  have hin:Ak (ile 0 (Ae (wr .i64 (AK (wr .i64 (Af (ofNat i) (ofNat n))) 1)) (ofNat n))) (ilt (Ae (wr .i64 (AK (wr .i64 (Af (ofNat i) (ofNat n))) 1)) (ofNat n)) (ofNat n)) = true:=by
   rw [hx]
   exact Ap (Nat.mod_lt _ (by omega))
  cases hp:Aw (f ((i+(n - 1)) % n)) with
  | true =>
   rw [TH (p:=λk=>Aw (f k)) hl hp hb]
   exact Ab (Agr L n f i j (ofNat_lt hl) (F7 (by omega)) hin (by rw [hx]; exact hp))
  | false =>
   rw [Ab (Agt L n f i j (ofNat_lt hl) (F7 (by omega)) hin (by rw [hx]; exact hp)),Aq,Ao hl (by omega)]
   refine Zh L n f hn e (i+1) (λ_=>.und) q (by omega) (by omega) λk hk=>?_
   by_cases hki:k = i
   ·rw [hki]; exact hp
   ·exact hb k (by omega)
theorem VV (L:LT) (n:Nat) (f:Nat->E6) (hn:n <= 4611686018427387903) (z:Nat) (hz:z < n):∀ (e b:Nat) (j:Nat->V) (q:Nat),n = b+e->e < q ->
  (A4 (Fq L) (Hi n f) q (I0 n f z b (Al (DP (λk=>Aw (f k)) n z) (b - 1)) (gN (λk=>Aw (f k)) n z b) j)).sem = some (Ii n f z 0 0 (gN (λk=>Aw (f k)) n z n))
 | 0,b,j,q+1,h,_=>by
  have:n = b:=by omega
  subst this
  exact Ab (Agp L n f z n _ _ j (A6 (Nat.le_refl _)))
 | e+1,b,j,q+1,h,h2=>by
  have hl:b < n:=by omega
  have hI:Ae (wr .i64 (Af (ofNat z) (ofNat b))) (ofNat n) = ofNat ((z+b) % n):=by rw [D9 (by omega),C5]
  have hlt:(z+b) % n < n:=Nat.mod_lt _ (by omega)
  have hin:Ak (ile 0 (Ae (wr .i64 (Af (ofNat z) (ofNat b))) (ofNat n))) (ilt (Ae (wr .i64 (Af (ofNat z) (ofNat b))) (ofNat n)) (ofNat n)) = true:=by
   rw [hI]
   exact Ap hlt
  have hnl:nlt (toN (Ae (wr .i64 (Af (ofNat z) (ofNat b))) (ofNat n))) n = true:=by
   rw [hI]
   exact decide_eq_true hlt
  have next:=VV L n f hn z hz e (b+1) (λ_=>.und) q (by omega) (by omega)
  rw [show b+1 - 1 = b by omega] at next
  cases b with
  | zero =>
   rw [Ab (Agj L n f z 0 _ _ j (ofNat_lt hl) (F7 (by omega)) rfl hin hnl),Aq,hI,Ao hl (by omega),show toN (ofNat ((z+0) % n)) = (z+0) % n from rfl,Cl]
   have hs:=MN (p:=λk=>Aw (f k)) hz hl
   rw [<- hs] at next
   exact next
  | succ b =>
   have hx:Ae (wr .i64 (AK (wr .i64 (Af (Ae (wr .i64 (Af (ofNat z) (ofNat (b+1)))) (ofNat n)) (ofNat n))) 1)) (ofNat n) = ofNat ((z+b) % n):=by
    rw [hI,Jc (by omega) (by omega),Qf hz (by omega)]
   have hxin:Ak (ile 0 (Ae (wr .i64 (AK (wr .i64 (Af (Ae (wr .i64 (Af (ofNat z) (ofNat (b+1)))) (ofNat n)) (ofNat n))) 1)) (ofNat n))) (ilt (Ae (wr .i64 (AK (wr .i64 (Af (Ae (wr .i64 (Af (ofNat z) (ofNat (b+1)))) (ofNat n)) (ofNat n))) 1)) (ofNat n)) (ofNat n)) = true:=by
    rw [hx]
    exact Ap (Nat.mod_lt _ (by omega))
   have hs:=MN (p:=λk=>Aw (f k)) hz hl
   have hc:=Be (DP (λk=>Aw (f k)) n z) b
   have h0:ilt 0 (ofNat (b+1)) = true:=by rw [show (0:Int) = ofNat 0 from rfl,Cs]; simp
   rw [show b+1 - 1 = b by omega]
   cases hp:Aw (f ((z+b) % n)) with
   | true =>
    rw [Ab (Agl L n f z (b+1) _ _ j (ofNat_lt hl) (F7 (by omega)) h0 hxin (by rw [hx]; exact hp) hin hnl),Aq,hI,Ao hl (by omega),show toN (ofNat ((z+(b+1)) % n)) = (z+(b+1)) % n from rfl,Ao (show Al (DP (λk=>Aw (f k)) n z) b < n by omega) (by omega),Cl,<- Bl (p:=DP (λk=>Aw (f k)) n z) (i:=b) hp,hs]
    exact next
   | false =>
    rw [Ab (Agn L n f z (b+1) _ _ j (ofNat_lt hl) (F7 (by omega)) h0 hxin (by rw [hx]; exact hp) hin hnl),Aq,hI,Ao hl (by omega),show toN (ofNat ((z+(b+1)) % n)) = (z+(b+1)) % n from rfl,Cl,<- By (p:=DP (λk=>Aw (f k)) n z) (i:=b) hp,hs]
    exact next
theorem VT (L:LT) (n:Nat) (f:Nat->E6) (p:Nat->Bool) (hn:n * 8 <= 140737488355328) (z:Nat) (g:Nat->Int) (hg:∀ i,i < n->g i = ofNat (snN p n z (AZ p n i))):∀ (e b:Nat) (j:Nat->V) (q:Nat),n = b+e->e < q ->
  (A4 (GP L) (IH n f) q (JX n f b (rN p n b) g (E3 p n z b) (UG p n b) j)).sem = some (Ig n f 0 (rN p n n) g (E3 p n z n) (A0 p n))
 | 0,b,j,q+1,h,_=>by
  have:n = b:=by omega
  subst this
  rw [<- ZA p n]
  exact Ab (Agh L n f n _ _ _ _ j (A6 (Nat.le_refl _)))
 | e+1,b,j,q+1,h,h2=>by
  have hl:b < n:=by omega
  have hr:=S3 p n b
  have h8:DZ (rN p n b) = true:=by
   unfold DZ
   simp
   omega
  have hnl:nlt b n = true:=by simpa [nlt] using hl
  have next:=VT L n f p hn z g hg e (b+1) (λ_=>.und) q (by omega) (by omega)
  rcases Nat.lt_or_ge (AZ p n b) (rN p n b) with hc | hc
  ·have hi:=So (z:=z) hl hc
   rw [<- hg b hl] at hi
   obtain ⟨e1,e2⟩:=N2 (z:=z) hc
   rw [Ab (Agd L n f b _ g _ _ j (ofNat_lt hl) (AF b) hnl h8 (by rw [hi]; simp [ilt])),Aq,Ao hl (by omega),hi,Cl,IG hl]
   rw [e1,e2] at next
   exact next
  ·have hc:AZ p n b = rN p n b:=Nat.le_antisymm (Kh p n b hl) hc
   have hi:=Sp (z:=z) hl hc
   rw [<- hg b hl] at hi
   obtain ⟨e1,e2⟩:=Px (z:=z) hc
   rw [<- hg b hl] at e1
   rw [Ab (Agf L n f b _ g _ _ j (ofNat_lt hl) (AF b) hnl h8 (by rw [hi]; rfl) (BH (by omega))),Aq,Ao hl (by omega),e1,Cl,<- hc,IG hl]
   rw [e2,<- hc] at next
   exact next
def VD:List (Nat × List (Nat × V)):=[(4,[(2,iV 0)])]
def QS (n:Nat) (f:Nat->E6):List (Nat × Lp):=[(0,PI n f),(2,Hi n f),(4,IH n f)]
theorem Ad5 (n:Nat) (f:Nat->E6) (z:Nat) (g:Nat->Int):CU (Aa2 n f z g) [(2,iV 0)] = JX n f 0 0 g (λ_=>0) (λ_=>0) (λi=>nth (Aa2 n f z g).t i):=by kernel_rfl
theorem Aii (n:Nat) (f:Nat->E6) (z:Nat):AaO n f z = I0 n f z 0 0 (λ_=>0) (λi=>nth (AaO n f z).t i):=by kernel_rfl
theorem AbD (n:Nat) (f:Nat->E6) (hp:0 < n) (h8:n * 8 <= 140737488355328) (hm:CG 8 (ofNat n) (ofNat n) = true) :
  (Ar (Ai tab (cxZ Gl tb53 VD (QS n f)) Try.f53 [Az n f,.fn 54 []] [])).sem = some (.ref 0,[.row 3 1 n λk=>iV (A0 (λk=>Aw (f k)) n k)]):=by
 have hL:=DL VD (QS n f)
 have hz:=TG (λk=>Aw (f k)) hp
 have hb:=OJ (λk=>Aw (f k)) hp
 refine A2 (As (As (As hL hL) hL) hL) _ (Ai4 _ _ _ _ n f (Ch (λk=>Aw (f k)) n) (gN (λk=>Aw (f k)) n (Ch (λk=>Aw (f k)) n) n) (rN (λk=>Aw (f k)) n n) (gN (λk=>Aw (f k)) n (Ch (λk=>Aw (f k)) n) n) (E3 (λk=>Aw (f k)) n (Ch (λk=>Aw (f k)) n) n) (A0 (λk=>Aw (f k)) n) hm
  (Aj ?_) (Aj ?_) (Aj ?_))
 ·show (A4 _ (PI n f) (n+1) _).sem = _
  exact Zh _ n f (by omega) n 0 _ (n+1) (by omega) (by omega) (λk hk=>absurd hk (Nat.not_lt_zero _))
 ·show (A4 _ (Hi n f) (n+1) _).sem = _
  rw [Aii]
  have h:=λL j=>VV L n f (by omega) _ hz n 0 j (n+1) (by omega) (by omega)
  simp only [Al7] at h
  exact h _ _
 ·show (A4 _ (IH n f) (n+1) (CU _ [(2,iV 0)])).sem = _
  rw [Ad5]
  exact VT _ n f (λk=>Aw (f k)) h8 (Ch (λk=>Aw (f k)) n) _ (λi hi=>Aat hb hi) n 0 _ (n+1) (by omega) (by omega)
noncomputable def AhL:List V->T (V × List Blk)
 | [v,.fn g []]=>apL v λn f=>.br (Ak (ilt 0 (ofNat n)) (Ak (DZ n) (CG 8 (ofNat n) (ofNat n)))) (match Nat.beq g 52,Nat.beq g 54 with
  | true,_=>.leaf (.ref 0,[.row 3 1 n λk=>iV (A0 (λk=>Ax (f k)) n k)])
  | _,true=>.leaf (.ref 0,[.row 3 1 n λk=>iV (A0 (λk=>Aw (f k)) n k)])
  | _,_=>.fail) .fail
 | _=>.fail
theorem p53:A7 Try.prog Gl 53 AhL:=by
 refine Av AL AN Try.func53 (by kernel_rfl) (by kernel_rfl) λvs v h' h=>?_
 unfold AhL at h
 split at h
 ·rename_i u g
  obtain ⟨n,f,ha,h1⟩:=Ci h
  obtain ⟨h8,hq⟩:=Ad h1
  have h8:ilt 0 (ofNat n) = true ∧ DZ n = true ∧ CG 8 (ofNat n) (ofNat n) = true:=by simpa [Ak] using h8
  obtain ⟨h9,h8,hm⟩:=h8
  have h9:0 < n:=by rw [show (0:Int) = ofNat 0 from rfl,Cs] at h9; simpa using h9
  have h8':n * 8 <= 140737488355328:=of_decide_eq_true h8
  have hA:Bp [u,.fn g []] [Az n f,.fn g []]:=λS w cs hv=>by
   obtain ⟨c,l,rfl,q1,q2⟩:=hv
   exact ⟨c,l,rfl,ha S w c q1,q2⟩
  cases h52:Nat.beq g 52 with
  | true =>
   rw [h52] at hq
   have he:=Nat.eq_of_beq_eq_true h52
   subst he
   have:=Ac hq
   simp only [Prod.mk.injEq] at this
   obtain ⟨rfl,rfl⟩:=this
   have hx:=JB tb53_ok VE (QT n f) (G:=Gl)
   exact ⟨_,cxZ Gl tb53 VE (QT n f),_,hA,rfl,hx.1,hx.2,AbE n f h9 h8' hm,A8.refl _⟩
  | false =>
   rw [h52] at hq
   cases h54:Nat.beq g 54 with
   | true =>
    rw [h54] at hq
    have he:=Nat.eq_of_beq_eq_true h54
    subst he
    have:=Ac hq
    simp only [Prod.mk.injEq] at this
    obtain ⟨rfl,rfl⟩:=this
    have hx:=JB tb53_ok VD (QS n f) (G:=Gl)
    exact ⟨_,cxZ Gl tb53 VD (QS n f),_,hA,rfl,hx.1,hx.2,AbD n f h9 h8' hm,A8.refl _⟩
   | false =>
    rw [h54] at hq
    cases hq
 ·cases h
end Go.Proofs.Ytjhnfomefcngfaa.Sh
