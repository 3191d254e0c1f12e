/-
  Layer 7: the program's numbers of threads and of locations (met) are the document's parts. No conditions.
-/
import Derived.Test.YtjhnfomefcngfaaShBa
import Derived.Test.YtjhnfomefcngfaaCyR
namespace Go.Proofs.Ytjhnfomefcngfaa.Sh
open Go.Sy Ed
open Int (ofNat)
noncomputable def tb53:List (Nat × (List V->T (V × List Blk))):=[(52,BQ λe=>bV (As e)),(54,BQ λe=>bV (Ar e)),(92,U9)]
theorem tb53_ok:AB Try.prog Gl tb53:=.cons p52 <| .cons p54 <| .cons p92 .nil
theorem Bs {a n:Nat} (h:a < 2 * n):a % n = if a < n then a else a - n:=by
 split
 ·rename_i h1; exact Nat.mod_eq_of_lt h1
 ·rename_i h1
  have h1:n <= a:=Nat.le_of_not_lt h1
  rw [Nat.mod_eq_sub_mod h1,Nat.mod_eq_of_lt (by omega)]
theorem Agk {n z b:Nat} (hz:z < n) (hb:b < n):posN n z ((z+b) % n) = b:=by
 unfold posN
 rw [Bs (a:=z+b) (by omega)]
 split
 ·rw [Bs (by omega)]; split <;> omega
 ·rw [Bs (by omega)]; split <;> omega
theorem Abw {n z i:Nat} (hz:z < n) (hi:i < n):(z+posN n z i) % n = i:=by
 unfold posN
 rw [Bs (a:=i+(n - z)) (by omega)]
 split
 ·rw [Bs (by omega)]; split <;> omega
 ·rw [Bs (by omega)]; split <;> omega
theorem PX {n z b:Nat} (hz:z < n) (hb:b < n):((z+(b+1)) % n+(n - 1)) % n = (z+b) % n:=by
 rcases Nat.lt_or_ge (b+1) n with h | h
 ·rw [Bs (a:=z+(b+1)) (by omega),Bs (a:=z+b) (by omega)]
  split <;> split <;> (rw [Bs (by omega)]; split <;> omega)
 ·have:b+1 = n:=by omega
  rw [this,Nat.add_mod_right,Nat.mod_eq_of_lt hz]
  rw [Bs (by omega),Bs (a:=z+b) (by omega)]
  split <;> split <;> omega
theorem FS {n:Nat} (h:0 < n):ieq (ofNat n) 0 = false:=by
 simp [ieq]
 omega
theorem J2 {a n:Nat} (hn:0 < n) (h:a+n <= 9223372036854775807):Ab (wr .i64 (A2 (wr .i64 (Ae (ofNat a) (ofNat n))) 1)) (ofNat n) = ofNat ((a+(n - 1)) % n):=by
 rw [DF h]
 have:wr .i64 (A2 (ofNat (a+n)) 1) = ofNat (a+(n - 1)):=by
  have:ofNat (a+n) = ofNat (a+(n - 1)+1):=by congr 1; omega
  rw [this]
  unfold wr A2 IntKind.wrap
  simp [IntKind.bits,IntKind.signed]
  omega
 rw [this,C5]
def Ci (p:Nat->Bool) (n:Nat):Nat:=match (List.range n).find? λi=>p ((i+(n - 1)) % n) with
 | some z=>z
 | none=>0
theorem T1 {p:Nat->Bool} {n i:Nat} (hi:i < n) (h:p ((i+(n - 1)) % n) = true) (hb:∀ k,k < i->p ((k+(n - 1)) % n) = false):Ci p n = i:=by
 unfold Ci
 have:(List.range n).find? (λi=>p ((i+(n - 1)) % n)) = some i:=by
  rw [List.find?_range_eq_some]
  exact ⟨h,by simpa using hi,λj hj=>by rw [hb j hj]; rfl⟩
 rw [this]
theorem OD {p:Nat->Bool} {n:Nat} (hb:∀ k,k < n->p ((k+(n - 1)) % n) = false):Ci p n = 0:=by
 unfold Ci
 have:(List.range n).find? (λi=>p ((i+(n - 1)) % n)) = none:=by
  rw [List.find?_eq_none]
  intro k hk
  rw [hb k (by simpa using hk)]
  simp
 rw [this]
theorem OC (p:Nat->Bool) {n:Nat} (hn:0 < n):Begin p n (Ci p n):=by
 cases h:(List.range n).find? (λi=>p ((i+(n - 1)) % n)) with
 | none =>
  have hz:Ci p n = 0:=by unfold Ci; rw [h]
  rw [hz]
  rw [List.find?_eq_none] at h
  refine .none λk hk=>?_
  have:=h ((k+1) % n) (by simpa using Nat.mod_lt _ hn)
  rw [show ((k+1) % n+(n - 1)) % n = k by
   rw [Bs (a:=k+1) (by omega)]
   split <;> (rw [Bs (by omega)]; split <;> omega)] at this
  simpa using this
 | some z =>
  have hz:Ci p n = z:=by unfold Ci; rw [h]
  rw [hz]
  rw [List.find?_range_eq_some] at h
  obtain ⟨h1,h2,h3⟩:=h
  have h2:z < n:=by simpa using h2
  have at':∀ k,0 < k->k < n->(k+(n - 1)) % n = k - 1:=λk h0 hk=>by
   rw [Bs (by omega)]; split <;> omega
  have at0:(0+(n - 1)) % n = n - 1:=by rw [Nat.zero_add,Nat.mod_eq_of_lt (by omega)]
  rcases Nat.eq_zero_or_pos z with h0 | h0
  ·subst h0
   rw [at0] at h1
   exact .last hn h1
  ·rw [at' z h0 h2] at h1
   refine .first h0 h2 h1 (λk hk=>?_) ?_
   ·have:=h3 (k+1) (by omega)
    rw [at' (k+1) (by omega) (by omega)] at this
    simpa using this
   ·have:=h3 0 h0
    rw [at0] at this
    simpa using this
theorem T0 (p:Nat->Bool) {n:Nat} (hn:0 < n):Ci p n < n:=by
 have h:=OC p hn
 generalize Ci p n = z at h
 cases h with
 | none _=>exact hn
 | last _ _=>exact hn
 | first _ h _ _ _=>exact h
def gN (p:Nat->Bool) (n z b i:Nat):Int:=if i < n ∧ posN n z i < b then ofNat (Aj (Ea p n z) (posN n z i)) else 0
theorem Ajy (p:Nat->Bool) (n z:Nat):gN p n z 0 = λ_=>0:=by
 funext i
 simp [gN]
theorem MK {p:Nat->Bool} {n z b:Nat} (hz:z < n) (hb:b < n):MZ (gN p n z b) ((z+b) % n) (ofNat (Aj (Ea p n z) b)) = gN p n z (b+1):=by
 funext i
 unfold MZ
 by_cases hi:i = (z+b) % n
 ·subst hi
  rw [show decide ((z+b) % n = (z+b) % n) = true by simp]
  simp only [cond_true]
  unfold gN
  rw [Agk hz hb,if_pos ⟨Nat.mod_lt _ (by omega),by omega⟩]
 ·rw [show decide (i = (z+b) % n) = false by simpa using hi]
  simp only [cond_false]
  unfold gN
  by_cases hin:i < n
  ·have hp:posN n z i ≠ b:=λhe=>hi (by rw [<- he,Abw hz hin])
   by_cases h1:posN n z i < b
   ·rw [if_pos ⟨hin,h1⟩,if_pos ⟨hin,by omega⟩]
   ·rw [if_neg (λh=>h1 h.2),if_neg (λh=>by have:=h.2; omega)]
  ·rw [if_neg (λh=>hin h.1),if_neg (λh=>hin h.1)]
theorem Z4 {p:Nat->Bool} {n z i:Nat} (hb:Begin p n z) (hi:i < n):gN p n z n i = ofNat (snN p n z (Bc p n i)):=by
 unfold gN
 rw [if_pos ⟨hi,show (i+(n - z)) % n < n from Nat.mod_lt _ (by omega)⟩,Abx hb hi]
def EM (p:Nat->Bool) (n z b i:Nat):Int:=if i < rN p n b then ofNat (snN p n z i) else 0
def Uv (p:Nat->Bool) (n b i:Nat):Int:=if i < b then Av p n i else 0
theorem YM (p:Nat->Bool) (n:Nat):Uv p n n = Av p n:=by
 funext i
 unfold Uv
 split
 ·rfl
 ·rename_i h
  unfold Av
  rw [show decide (i < n) = false by simpa using h]
  rfl
theorem Ji {p:Nat->Bool} {n b:Nat} (hb:b < n):MZ (Uv p n b) b (ofNat (Bc p n b)) = Uv p n (b+1):=by
 funext i
 unfold MZ Uv
 by_cases hi:i = b
 ·subst hi
  rw [if_pos (Nat.lt_succ_self i),F0 hb]
  simp
 ·rw [show decide (i = b) = false by simpa using hi]
  simp only [cond_false]
  by_cases h1:i < b
  ·rw [if_pos h1,if_pos (by omega)]
  ·rw [if_neg h1,if_neg (by omega)]
theorem Ns {p:Nat->Bool} {n z b:Nat} (h:Bc p n b < rN p n b):EM p n z (b+1) = EM p n z b ∧ rN p n (b+1) = rN p n b:=by
 have:rN p n (b+1) = rN p n b:=by rw [rN,if_pos h]
 exact ⟨by funext i; unfold EM; rw [this],this⟩
theorem Pq {p:Nat->Bool} {n z b:Nat} (h:Bc p n b = rN p n b):AE (rN p n b) (λi=>iV (EM p n z b i)) (iV (ofNat (snN p n z (Bc p n b)))) = (λi=>iV (EM p n z (b+1) i)) ∧ rN p n (b+1) = rN p n b+1:=by
 have hr:rN p n (b+1) = rN p n b+1:=by rw [rN,if_neg (by omega)]
 refine ⟨?_,hr⟩
 funext k
 rw [BC,show Nat.beq k (rN p n b) = decide (k = rN p n b) by rw [Bool.eq_iff_iff]; simp]
 unfold EM
 rw [hr]
 by_cases hk:k = rN p n b
 ·rw [hk,h]; simp
 ·by_cases h2:k < rN p n b
  ·have:k < rN p n b+1:=by omega
   simp [hk,h2,this]
  ·have:¬ k < rN p n b+1:=by omega
   simp [hk,h2,this]
theorem RW {p:Nat->Bool} {n z b:Nat} (hb:b < n) (h:Bc p n b < rN p n b):HG (rN p n b) (EM p n z b) (ofNat (snN p n z (Bc p n b))) = ofNat (Bc p n b):=by
 refine PH h ?_ λk hk=>?_
 ·unfold EM
  rw [if_pos h]
  simp [ieq]
 ·unfold EM
  rw [if_pos (by omega)]
  have:=AcG p n b (by omega) _ h
  cases he:ieq (ofNat (snN p n z (Bc p n b))) (ofNat (snN p n z k)) with
  | false=>rfl
  | true =>
   have he:=Int.ofNat.inj ((beq_iff_eq (α:=Int)).1 he)
   have:=Yj (p:=p) (n:=n) (z:=z) (Nat.le_of_lt hk) this he.symm
   omega
theorem RX {p:Nat->Bool} {n z b:Nat} (hb:b < n) (h:Bc p n b = rN p n b):HG (rN p n b) (EM p n z b) (ofNat (snN p n z (Bc p n b))) = -1:=by
 refine SS λk hk=>?_
 unfold EM
 rw [if_pos hk]
 cases he:ieq (ofNat (snN p n z (Bc p n b))) (ofNat (snN p n z k)) with
 | false=>rfl
 | true =>
  have he:=Int.ofNat.inj ((beq_iff_eq (α:=Int)).1 he)
  have:=Yj (p:=p) (n:=n) (z:=z) (show k <= Bc p n b by omega) (N6 (by omega)) he.symm
  omega
def PB (n:Nat) (f:Nat->E6):Lp:=⟨(bmK 97 0 [0,1,4,5,6,18,19]),1,bmK 97 0 [0,1,4,5,6],1,n+1⟩
def Pm (n:Nat) (f:Nat->E6) (b:Nat) (j:Nat->V):St:=⟨(jsV 97 0 j [(0,.sl 6 n λi=>eV (f i)),(1,.fn 52 []),(4,.ref 0),(5,nV n),(6,iV 0),(18,nV n),(19,nV b)]),[.row 3 1 0 (λ_=>.und)]⟩
def UK (n:Nat) (f:Nat->E6) (b:Nat):Ex × St:=(.ex 0,⟨(jsV 97 0 (λ_=>.und) [(0,.sl 6 n λi=>eV (f i)),(1,.fn 52 []),(4,.ref 0),(5,nV n),(6,nV b)]),[.row 3 1 0 (λ_=>.und)]⟩)
noncomputable def J1 (L:LT):St->T (Ex × St):=λst=>AF tab ⟨Ap tb53,L,Gl⟩ (A1 Try.f53 0) 0 st
section
variable (L:LT) (n:Nat) (f:Nat->E6) (b:Nat)  (j:Nat->V)
include L n f b j
theorem AeO (h0:ilt (ofNat b) (ofNat n) = true) (h1:ieq (ofNat n) 0 = false) (h13:Af (ile 0 (Ab (wr .i64 (A2 (wr .i64 (Ae (ofNat b) (ofNat n))) 1)) (ofNat n))) (ilt (Ab (wr .i64 (A2 (wr .i64 (Ae (ofNat b) (ofNat n))) 1)) (ofNat n)) (ofNat n)) = true) (h2:As (f (toN (Ab (wr .i64 (A2 (wr .i64 (Ae (ofNat b) (ofNat n))) 1)) (ofNat n)))) = false):Ai (J1 L) (PB n f) (Pm n f b j) = some (.nm,⟨(jsV 97 0 (λ_=>.und) [(0,(.sl 6 n (λi=>eV (f i)))),(1,(.fn 52 [])),(4,(.ref 0)),(5,(nV n)),(6,(iV 0)),(18,(nV n)),(19,(iV (wr .i64 (Ae (ofNat b) 1))))]),[r3Z]⟩):=Aa [true,false,true,false] [ilt (ofNat b) (ofNat n),ieq (ofNat n) 0,Af (ile 0 (Ab (wr .i64 (A2 (wr .i64 (Ae (ofNat b) (ofNat n))) 1)) (ofNat n))) (ilt (Ab (wr .i64 (A2 (wr .i64 (Ae (ofNat b) (ofNat n))) 1)) (ofNat n)) (ofNat n)),As (f (toN (Ab (wr .i64 (A2 (wr .i64 (Ae (ofNat b) (ofNat n))) 1)) (ofNat n))))] (by kernel_rfl) (by simp only [h13] <;> simp only [*] <;> rfl)
theorem AeM (h0:ilt (ofNat b) (ofNat n) = true) (h1:ieq (ofNat n) 0 = false) (h13:Af (ile 0 (Ab (wr .i64 (A2 (wr .i64 (Ae (ofNat b) (ofNat n))) 1)) (ofNat n))) (ilt (Ab (wr .i64 (A2 (wr .i64 (Ae (ofNat b) (ofNat n))) 1)) (ofNat n)) (ofNat n)) = true) (h2:As (f (toN (Ab (wr .i64 (A2 (wr .i64 (Ae (ofNat b) (ofNat n))) 1)) (ofNat n)))) = true):Ai (J1 L) (PB n f) (Pm n f b j) = some ((.ex 0),⟨(jsV 97 0 (λ_=>.und) [(0,(.sl 6 n (λi=>eV (f i)))),(1,(.fn 52 [])),(4,(.ref 0)),(5,(nV n)),(6,(nV b))]),[r3Z]⟩):=Aa [true,false,true,true] [ilt (ofNat b) (ofNat n),ieq (ofNat n) 0,Af (ile 0 (Ab (wr .i64 (A2 (wr .i64 (Ae (ofNat b) (ofNat n))) 1)) (ofNat n))) (ilt (Ab (wr .i64 (A2 (wr .i64 (Ae (ofNat b) (ofNat n))) 1)) (ofNat n)) (ofNat n)),As (f (toN (Ab (wr .i64 (A2 (wr .i64 (Ae (ofNat b) (ofNat n))) 1)) (ofNat n))))] (by kernel_rfl) (by simp only [h13] <;> simp only [*] <;> rfl)
theorem AeQ (h0:ilt (ofNat b) (ofNat n) = false):Ai (J1 L) (PB n f) (Pm n f b j) = some ((.ex 0),⟨(jsV 97 0 (λ_=>.und) [(0,(.sl 6 n (λi=>eV (f i)))),(1,(.fn 52 [])),(4,(.ref 0)),(5,(nV n)),(6,(iV 0))]),[r3Z]⟩):=Aa [false] [ilt (ofNat b) (ofNat n)] (by kernel_rfl) (by simp only [h0] <;> rfl)
end
def AcV (n:Nat) (f:Nat->E6) :Nat->V:=lkV AA [(16,(.sl 6 n (λi=>eV (f i)))),(17,(nV n))]
def H9 (n:Nat) (f:Nat->E6):Lp:=⟨(bmK 97 0 [0,1,4,5,6,8,9,37,38]),2,bmK 97 0 [0,1,4,5,8],2,n+1⟩
def IV (n:Nat) (f:Nat->E6) (z b k:Nat) (g:Nat->Int) (j:Nat->V):St:=⟨(jsV 97 0 j [(0,.sl 6 n λi=>eV (f i)),(1,.fn 52 []),(4,.ref 0),(5,nV n),(6,nV z),(8,.ref 1),(9,nV k),(37,nV n),(38,nV b)]),[.row 3 1 0 (λ_=>.und),.row 3 1 n (λi=>iV (g i))]⟩
def Ou (n:Nat) (f:Nat->E6) (z b k:Nat) (g:Nat->Int):Ex × St:=(.ex 2,⟨(jsV 97 0 (λ_=>.und) [(0,.sl 6 n λi=>eV (f i)),(1,.fn 52 []),(4,.ref 0),(5,nV n),(8,.ref 1)]),[.row 3 1 0 (λ_=>.und),.row 3 1 n (λi=>iV (g i))]⟩)
noncomputable def EC (L:LT):St->T (Ex × St):=λst=>AF tab ⟨Ap tb53,L,Gl⟩ (A1 Try.f53 2) 2 st
section
variable (L:LT) (n:Nat) (f:Nat->E6) (z b k:Nat) (g:Nat->Int)  (j:Nat->V)
include L n f z b k g j
theorem AeE (h0:ilt (ofNat b) (ofNat n) = true) (h1:ieq (ofNat n) 0 = false) (h2:ilt 0 (ofNat b) = false) (h13:Af (ile 0 (Ab (wr .i64 (Ae (ofNat z) (ofNat b))) (ofNat n))) (ilt (Ab (wr .i64 (Ae (ofNat z) (ofNat b))) (ofNat n)) (ofNat n)) = true) (h14:nlt (toN (Ab (wr .i64 (Ae (ofNat z) (ofNat b))) (ofNat n))) n = true):Ai (EC L) (H9 n f) (IV n f z b k g j) = some (.nm,⟨(jsV 97 0 (λ_=>.und) [(0,(.sl 6 n (λi=>eV (f i)))),(1,(.fn 52 [])),(4,(.ref 0)),(5,(nV n)),(6,(nV z)),(8,(.ref 1)),(9,(nV k)),(37,(nV n)),(38,(iV (wr .i64 (Ae (ofNat b) 1))))]),[r3Z,.row 3 1 n (Bl (λi=>iV (g i)) (toN (Ab (wr .i64 (Ae (ofNat z) (ofNat b))) (ofNat n))) (nV k))]⟩):=Aa (bbK 17 98305) ((λc0=>[ilt (ofNat b) (ofNat n),ieq (ofNat n) 0,c0,c0,c0,c0,c0,c0,c0,c0,c0,c0,c0,c0,false,Af (ile 0 (Ab (wr .i64 (Ae (ofNat z) (ofNat b))) (ofNat n))) (ilt (Ab (wr .i64 (Ae (ofNat z) (ofNat b))) (ofNat n)) (ofNat n)),nlt (toN (Ab (wr .i64 (Ae (ofNat z) (ofNat b))) (ofNat n))) n]) (ilt 0 (ofNat b))) (by kernel_rfl) (by simp only [h13] <;> simp only [*] <;> rfl)
theorem AeI (h0:ilt (ofNat b) (ofNat n) = true) (h1:ieq (ofNat n) 0 = false) (h2:ilt 0 (ofNat b) = true) (h14:Af (ile 0 (Ab (wr .i64 (A2 (wr .i64 (Ae (Ab (wr .i64 (Ae (ofNat z) (ofNat b))) (ofNat n)) (ofNat n))) 1)) (ofNat n))) (ilt (Ab (wr .i64 (A2 (wr .i64 (Ae (Ab (wr .i64 (Ae (ofNat z) (ofNat b))) (ofNat n)) (ofNat n))) 1)) (ofNat n)) (ofNat n)) = true) (h3:As (f (toN (Ab (wr .i64 (A2 (wr .i64 (Ae (Ab (wr .i64 (Ae (ofNat z) (ofNat b))) (ofNat n)) (ofNat n))) 1)) (ofNat n)))) = false) (h16:Af (ile 0 (Ab (wr .i64 (Ae (ofNat z) (ofNat b))) (ofNat n))) (ilt (Ab (wr .i64 (Ae (ofNat z) (ofNat b))) (ofNat n)) (ofNat n)) = true) (h17:nlt (toN (Ab (wr .i64 (Ae (ofNat z) (ofNat b))) (ofNat n))) n = true):Ai (EC L) (H9 n f) (IV n f z b k g j) = some (.nm,⟨(jsV 97 0 (λ_=>.und) [(0,(.sl 6 n (λi=>eV (f i)))),(1,(.fn 52 [])),(4,(.ref 0)),(5,(nV n)),(6,(nV z)),(8,(.ref 1)),(9,(nV k)),(37,(nV n)),(38,(iV (wr .i64 (Ae (ofNat b) 1))))]),[r3Z,.row 3 1 n (Bl (λi=>iV (g i)) (toN (Ab (wr .i64 (Ae (ofNat z) (ofNat b))) (ofNat n))) (nV k))]⟩):=Aa (bbK 19 457725) ((λc0 c1=>[ilt (ofNat b) (ofNat n),c0,c1,c1,c1,c1,c1,c1,c1,c1,c0,c1,Af (ile 0 (Ab (wr .i64 (A2 (wr .i64 (Ae (Ab (wr .i64 (Ae (ofNat z) (ofNat b))) (ofNat n)) (ofNat n))) 1)) (ofNat n))) (ilt (Ab (wr .i64 (A2 (wr .i64 (Ae (Ab (wr .i64 (Ae (ofNat z) (ofNat b))) (ofNat n)) (ofNat n))) 1)) (ofNat n)) (ofNat n)),c1,c1,c1,As (f (toN (Ab (wr .i64 (A2 (wr .i64 (Ae (Ab (wr .i64 (Ae (ofNat z) (ofNat b))) (ofNat n)) (ofNat n))) 1)) (ofNat n)))),Af (ile 0 (Ab (wr .i64 (Ae (ofNat z) (ofNat b))) (ofNat n))) (ilt (Ab (wr .i64 (Ae (ofNat z) (ofNat b))) (ofNat n)) (ofNat n)),nlt (toN (Ab (wr .i64 (Ae (ofNat z) (ofNat b))) (ofNat n))) n]) (ieq (ofNat n) 0) (ilt 0 (ofNat b))) (by kernel_rfl) (by simp only [h14,h16] <;> simp only [*] <;> rfl)
theorem AeG (h0:ilt (ofNat b) (ofNat n) = true) (h1:ieq (ofNat n) 0 = false) (h2:ilt 0 (ofNat b) = true) (h14:Af (ile 0 (Ab (wr .i64 (A2 (wr .i64 (Ae (Ab (wr .i64 (Ae (ofNat z) (ofNat b))) (ofNat n)) (ofNat n))) 1)) (ofNat n))) (ilt (Ab (wr .i64 (A2 (wr .i64 (Ae (Ab (wr .i64 (Ae (ofNat z) (ofNat b))) (ofNat n)) (ofNat n))) 1)) (ofNat n)) (ofNat n)) = true) (h3:As (f (toN (Ab (wr .i64 (A2 (wr .i64 (Ae (Ab (wr .i64 (Ae (ofNat z) (ofNat b))) (ofNat n)) (ofNat n))) 1)) (ofNat n)))) = true) (h16:Af (ile 0 (Ab (wr .i64 (Ae (ofNat z) (ofNat b))) (ofNat n))) (ilt (Ab (wr .i64 (Ae (ofNat z) (ofNat b))) (ofNat n)) (ofNat n)) = true) (h17:nlt (toN (Ab (wr .i64 (Ae (ofNat z) (ofNat b))) (ofNat n))) n = true):Ai (EC L) (H9 n f) (IV n f z b k g j) = some (.nm,⟨(jsV 97 0 (λ_=>.und) [(0,(.sl 6 n (λi=>eV (f i)))),(1,(.fn 52 [])),(4,(.ref 0)),(5,(nV n)),(6,(nV z)),(8,(.ref 1)),(9,(iV (wr .i64 (Ae (ofNat k) 1)))),(37,(nV n)),(38,(iV (wr .i64 (Ae (ofNat b) 1))))]),[r3Z,.row 3 1 n (Bl (λi=>iV (g i)) (toN (Ab (wr .i64 (Ae (ofNat z) (ofNat b))) (ofNat n))) (iV (wr .i64 (Ae (ofNat k) 1))))]⟩):=Aa (bbK 19 523261) ((λc0 c1=>[ilt (ofNat b) (ofNat n),c0,c1,c1,c1,c1,c1,c1,c1,c1,c0,c1,Af (ile 0 (Ab (wr .i64 (A2 (wr .i64 (Ae (Ab (wr .i64 (Ae (ofNat z) (ofNat b))) (ofNat n)) (ofNat n))) 1)) (ofNat n))) (ilt (Ab (wr .i64 (A2 (wr .i64 (Ae (Ab (wr .i64 (Ae (ofNat z) (ofNat b))) (ofNat n)) (ofNat n))) 1)) (ofNat n)) (ofNat n)),c1,c1,c1,As (f (toN (Ab (wr .i64 (A2 (wr .i64 (Ae (Ab (wr .i64 (Ae (ofNat z) (ofNat b))) (ofNat n)) (ofNat n))) 1)) (ofNat n)))),Af (ile 0 (Ab (wr .i64 (Ae (ofNat z) (ofNat b))) (ofNat n))) (ilt (Ab (wr .i64 (Ae (ofNat z) (ofNat b))) (ofNat n)) (ofNat n)),nlt (toN (Ab (wr .i64 (Ae (ofNat z) (ofNat b))) (ofNat n))) n]) (ieq (ofNat n) 0) (ilt 0 (ofNat b))) (by kernel_rfl) (by simp only [h14,h16] <;> simp only [*] <;> rfl)
theorem AeK (h0:ilt (ofNat b) (ofNat n) = false):Ai (EC L) (H9 n f) (IV n f z b k g j) = some ((.ex 2),⟨(jsV 97 0 (λ_=>.und) [(0,(.sl 6 n (λi=>eV (f i)))),(1,(.fn 52 [])),(4,(.ref 0)),(5,(nV n)),(8,(.ref 1))]),[r3Z,.row 3 1 n (λi=>iV (g i))]⟩):=Aa [false] [ilt (ofNat b) (ofNat n)] (by kernel_rfl) (by simp only [h0] <;> rfl)
end
def Wp (n:Nat) (f:Nat->E6) (z:Nat):St:=⟨(jsV 97 0 (λ_=>.und) [(0,(.sl 6 n (λi=>eV (f i)))),(1,(.fn 52 [])),(4,(.ref 0)),(5,(nV n)),(6,(nV z)),(8,(.ref 1)),(9,(iV 0)),(35,(nV n)),(36,(.ref 1)),(37,(nV n)),(38,(iV 0))]),[r3Z,.row 3 1 n (λ_=>iV 0)]⟩
def Jl (n:Nat) (f:Nat->E6):Lp:=⟨(bmK 97 0 [4,8,12,13,70,71]),4,bmK 97 0 [13],4,n+1⟩
def Ki (n:Nat) (f:Nat->E6) (b r:Nat) (g s o:Nat->Int) (j:Nat->V):St:=⟨(jsV 97 0 j [(4,.ref 0),(8,.ref 1),(12,.ref 2),(13,.ref 3),(70,nV n),(71,nV b)]),[.row 3 1 0 (λ_=>.und),.row 3 1 n (λi=>iV (g i)),.row 3 1 r (λi=>iV (s i)),.row 3 1 n (λi=>iV (o i))]⟩
def Oq (n:Nat) (f:Nat->E6) (b r:Nat) (g s o:Nat->Int):Ex × St:=(.ex 4,⟨(jsV 97 0 (λ_=>.und) [(13,.ref 3)]),[.row 3 1 0 (λ_=>.und),.row 3 1 n (λi=>iV (g i)),.row 3 1 r (λi=>iV (s i)),.row 3 1 n (λi=>iV (o i))]⟩)
noncomputable def FF (L:LT):St->T (Ex × St):=λst=>AF tab ⟨Ap tb53,L,Gl⟩ (A1 Try.f53 4) 4 st
section
variable (L:LT) (n:Nat) (f:Nat->E6) (b r:Nat) (g s o:Nat->Int)  (j:Nat->V)
include L n f b r g s o j
theorem Ae8 (h0:ilt (ofNat b) (ofNat n) = true) (h13:ile 0 (ofNat b) = true) (h1:nlt b n = true) (h2:CR r = true) (h3:ilt (HG r s (g b)) 0 = false):Ai (FF L) (Jl n f) (Ki n f b r g s o j) = some (.nm,⟨(jsV 97 0 (λ_=>.und) [(4,(.ref 0)),(8,(.ref 1)),(12,(.ref 2)),(13,(.ref 3)),(70,(nV n)),(71,(iV (wr .i64 (Ae (ofNat b) 1))))]),[r3Z,.row 3 1 n (λi=>iV (g i)),.row 3 1 r (λi=>iV (s i)),.row 3 1 n (Bl (λi=>iV (o i)) b (iV (HG r s (g b))))]⟩):=Aa (bbK 8 223) ((λc0 c1=>[ilt (ofNat b) (ofNat n),c0,c1,Au r (λ_=>true),CR r,ilt (HG r s (g b)) 0,c0,c1]) (Af (ile 0 (ofNat b)) (ilt (ofNat b) (ofNat n))) (nlt b n)) (by kernel_rfl) (by simp only [*,Aw] <;> rfl)
theorem AeA (h0:ilt (ofNat b) (ofNat n) = true) (h13:ile 0 (ofNat b) = true) (h1:nlt b n = true) (h2:CR r = true) (h3:ilt (HG r s (g b)) 0 = true) (h14:Bg r 1 8 = true):Ai (FF L) (Jl n f) (Ki n f b r g s o j) = some (.nm,⟨(jsV 97 0 (λ_=>.und) [(4,(.ref 0)),(8,(.ref 1)),(12,(.ref 2)),(13,(.ref 3)),(70,(nV n)),(71,(iV (wr .i64 (Ae (ofNat b) 1))))]),[r3Z,.row 3 1 n (λi=>iV (g i)),.row 3 1 (Bn r 1) (AE r (λi=>iV (s i)) (iV (g b))),.row 3 1 n (Bl (λi=>iV (o i)) b (nV r))]⟩):=Aa (bbK 11 2047) ((λc0 c1=>[ilt (ofNat b) (ofNat n),c0,c1,Au r (λ_=>true),CR r,ilt (HG r s (g b)) 0,c0,c1,Bg r 1 8,c0,c1]) (Af (ile 0 (ofNat b)) (ilt (ofNat b) (ofNat n))) (nlt b n)) (by kernel_rfl) (by simp only [*,Aw] <;> rfl)
theorem AeC (h0:ilt (ofNat b) (ofNat n) = false):Ai (FF L) (Jl n f) (Ki n f b r g s o j) = some ((.ex 4),⟨(jsV 97 0 (λ_=>.und) [(13,(.ref 3))]),[r3Z,.row 3 1 n (λi=>iV (g i)),.row 3 1 r (λi=>iV (s i)),.row 3 1 n (λi=>iV (o i))]⟩):=Aa [false] [ilt (ofNat b) (ofNat n)] (by kernel_rfl) (by simp only [h0] <;> rfl)
end
def Wh (n:Nat) (f:Nat->E6) (z:Nat) (g:Nat->Int):St:=⟨(jsV 97 0 (λ_=>.und) [(0,(.sl 6 n (λi=>eV (f i)))),(1,(.fn 52 [])),(4,(.ref 0)),(5,(nV n)),(8,(.ref 1)),(12,(.ref 2)),(13,(.ref 3)),(68,(nV n)),(69,(.ref 3)),(70,(nV n)),(71,(iV 0))]),[r3Z,.row 3 1 n (λi=>iV (g i)),r3Z,.row 3 1 n (λ_=>iV 0)]⟩
noncomputable abbrev Lo (L:LT) (p0:PT) (p2:PT) (p4:PT) (n:Nat) (f:Nat->E6) (z:Nat) (g:Nat->Int) (r:Nat) (gg:Nat->Int) (ss:Nat->Int) (o:Nat->Int):LT:=onP 0 p0 (UK n f z) (onP 2 p2 (Ou n f z 0 0 g) (onP 4 p4 (Oq n f 0 r gg ss o) L))
theorem AgY (L:LT) (p0:PT) (p2:PT) (p4:PT) (n:Nat) (f:Nat->E6) (z:Nat) (g:Nat->Int) (r:Nat) (gg ss o:Nat->Int) (h0:BI 8 (ofNat n) (ofNat n) = true) (hp0:p0 (J1 (Lo L p0 p2 p4 n f z g r gg ss o)) (Pm n f 0 (AcV n f )) = true) (hp2:p2 (EC (Lo L p0 p2 p4 n f z g r gg ss o)) (Wp n f z) = true) (hp4:p4 (FF (Lo L p0 p2 p4 n f z g r gg ss o)) (Wh n f z g) = true):(Az (Ak tab ⟨Ap tb53,onP 0 p0 (UK n f z) (onP 2 p2 (Ou n f z 0 0 g) (onP 4 p4 (Oq n f 0 r gg ss o) L)),Gl⟩ Try.f53 [.sl 6 n λi=>eV (f i),.fn 52 []] [])).sem = some ((.ref 0),[.row 3 1 n (λi=>iV (o i))]):=Aa [true,true,true,true,true] [p0 (J1 (Lo L p0 p2 p4 n f z g r gg ss o)) (Pm n f 0 (AcV n f )),BI 8 (ofNat n) (ofNat n),p2 (EC (Lo L p0 p2 p4 n f z g r gg ss o)) (Wp n f z),BI 8 (ofNat n) (ofNat n),p4 (FF (Lo L p0 p2 p4 n f z g r gg ss o)) (Wh n f z g)] (by kernel_rfl) (by simp only [hp0,hp2,hp4] <;> simp only [h0] <;> rfl)
def PA (n:Nat) (f:Nat->E6):Lp:=⟨(bmK 97 0 [0,1,4,5,6,18,19]),1,bmK 97 0 [0,1,4,5,6],1,n+1⟩
def Pl (n:Nat) (f:Nat->E6) (b:Nat) (j:Nat->V):St:=⟨(jsV 97 0 j [(0,.sl 6 n λi=>eV (f i)),(1,.fn 54 []),(4,.ref 0),(5,nV n),(6,iV 0),(18,nV n),(19,nV b)]),[.row 3 1 0 (λ_=>.und)]⟩
def UJ (n:Nat) (f:Nat->E6) (b:Nat):Ex × St:=(.ex 0,⟨(jsV 97 0 (λ_=>.und) [(0,.sl 6 n λi=>eV (f i)),(1,.fn 54 []),(4,.ref 0),(5,nV n),(6,nV b)]),[.row 3 1 0 (λ_=>.und)]⟩)
noncomputable def J0 (L:LT):St->T (Ex × St):=λst=>AF tab ⟨Ap tb53,L,Gl⟩ (A1 Try.f53 0) 0 st
section
variable (L:LT) (n:Nat) (f:Nat->E6) (b:Nat)  (j:Nat->V)
include L n f b j
theorem AeN (h0:ilt (ofNat b) (ofNat n) = true) (h1:ieq (ofNat n) 0 = false) (h13:Af (ile 0 (Ab (wr .i64 (A2 (wr .i64 (Ae (ofNat b) (ofNat n))) 1)) (ofNat n))) (ilt (Ab (wr .i64 (A2 (wr .i64 (Ae (ofNat b) (ofNat n))) 1)) (ofNat n)) (ofNat n)) = true) (h2:Ar (f (toN (Ab (wr .i64 (A2 (wr .i64 (Ae (ofNat b) (ofNat n))) 1)) (ofNat n)))) = false):Ai (J0 L) (PA n f) (Pl n f b j) = some (.nm,⟨(jsV 97 0 (λ_=>.und) [(0,(.sl 6 n (λi=>eV (f i)))),(1,(.fn 54 [])),(4,(.ref 0)),(5,(nV n)),(6,(iV 0)),(18,(nV n)),(19,(iV (wr .i64 (Ae (ofNat b) 1))))]),[r3Z]⟩):=Aa [true,false,true,false] [ilt (ofNat b) (ofNat n),ieq (ofNat n) 0,Af (ile 0 (Ab (wr .i64 (A2 (wr .i64 (Ae (ofNat b) (ofNat n))) 1)) (ofNat n))) (ilt (Ab (wr .i64 (A2 (wr .i64 (Ae (ofNat b) (ofNat n))) 1)) (ofNat n)) (ofNat n)),Ar (f (toN (Ab (wr .i64 (A2 (wr .i64 (Ae (ofNat b) (ofNat n))) 1)) (ofNat n))))] (by kernel_rfl) (by simp only [h13] <;> simp only [*] <;> rfl)
theorem AeL (h0:ilt (ofNat b) (ofNat n) = true) (h1:ieq (ofNat n) 0 = false) (h13:Af (ile 0 (Ab (wr .i64 (A2 (wr .i64 (Ae (ofNat b) (ofNat n))) 1)) (ofNat n))) (ilt (Ab (wr .i64 (A2 (wr .i64 (Ae (ofNat b) (ofNat n))) 1)) (ofNat n)) (ofNat n)) = true) (h2:Ar (f (toN (Ab (wr .i64 (A2 (wr .i64 (Ae (ofNat b) (ofNat n))) 1)) (ofNat n)))) = true):Ai (J0 L) (PA n f) (Pl n f b j) = some ((.ex 0),⟨(jsV 97 0 (λ_=>.und) [(0,(.sl 6 n (λi=>eV (f i)))),(1,(.fn 54 [])),(4,(.ref 0)),(5,(nV n)),(6,(nV b))]),[r3Z]⟩):=Aa [true,false,true,true] [ilt (ofNat b) (ofNat n),ieq (ofNat n) 0,Af (ile 0 (Ab (wr .i64 (A2 (wr .i64 (Ae (ofNat b) (ofNat n))) 1)) (ofNat n))) (ilt (Ab (wr .i64 (A2 (wr .i64 (Ae (ofNat b) (ofNat n))) 1)) (ofNat n)) (ofNat n)),Ar (f (toN (Ab (wr .i64 (A2 (wr .i64 (Ae (ofNat b) (ofNat n))) 1)) (ofNat n))))] (by kernel_rfl) (by simp only [h13] <;> simp only [*] <;> rfl)
theorem AeP (h0:ilt (ofNat b) (ofNat n) = false):Ai (J0 L) (PA n f) (Pl n f b j) = some ((.ex 0),⟨(jsV 97 0 (λ_=>.und) [(0,(.sl 6 n (λi=>eV (f i)))),(1,(.fn 54 [])),(4,(.ref 0)),(5,(nV n)),(6,(iV 0))]),[r3Z]⟩):=Aa [false] [ilt (ofNat b) (ofNat n)] (by kernel_rfl) (by simp only [h0] <;> rfl)
end
def AcU (n:Nat) (f:Nat->E6) :Nat->V:=lkV AA [(16,(.sl 6 n (λi=>eV (f i)))),(17,(nV n))]
def H8 (n:Nat) (f:Nat->E6):Lp:=⟨(bmK 97 0 [0,1,4,5,6,8,9,37,38]),2,bmK 97 0 [0,1,4,5,8],2,n+1⟩
def IU (n:Nat) (f:Nat->E6) (z b k:Nat) (g:Nat->Int) (j:Nat->V):St:=⟨(jsV 97 0 j [(0,.sl 6 n λi=>eV (f i)),(1,.fn 54 []),(4,.ref 0),(5,nV n),(6,nV z),(8,.ref 1),(9,nV k),(37,nV n),(38,nV b)]),[.row 3 1 0 (λ_=>.und),.row 3 1 n (λi=>iV (g i))]⟩
def Ot (n:Nat) (f:Nat->E6) (z b k:Nat) (g:Nat->Int):Ex × St:=(.ex 2,⟨(jsV 97 0 (λ_=>.und) [(0,.sl 6 n λi=>eV (f i)),(1,.fn 54 []),(4,.ref 0),(5,nV n),(8,.ref 1)]),[.row 3 1 0 (λ_=>.und),.row 3 1 n (λi=>iV (g i))]⟩)
noncomputable def EB (L:LT):St->T (Ex × St):=λst=>AF tab ⟨Ap tb53,L,Gl⟩ (A1 Try.f53 2) 2 st
section
variable (L:LT) (n:Nat) (f:Nat->E6) (z b k:Nat) (g:Nat->Int)  (j:Nat->V)
include L n f z b k g j
theorem AeD (h0:ilt (ofNat b) (ofNat n) = true) (h1:ieq (ofNat n) 0 = false) (h2:ilt 0 (ofNat b) = false) (h13:Af (ile 0 (Ab (wr .i64 (Ae (ofNat z) (ofNat b))) (ofNat n))) (ilt (Ab (wr .i64 (Ae (ofNat z) (ofNat b))) (ofNat n)) (ofNat n)) = true) (h14:nlt (toN (Ab (wr .i64 (Ae (ofNat z) (ofNat b))) (ofNat n))) n = true):Ai (EB L) (H8 n f) (IU n f z b k g j) = some (.nm,⟨(jsV 97 0 (λ_=>.und) [(0,(.sl 6 n (λi=>eV (f i)))),(1,(.fn 54 [])),(4,(.ref 0)),(5,(nV n)),(6,(nV z)),(8,(.ref 1)),(9,(nV k)),(37,(nV n)),(38,(iV (wr .i64 (Ae (ofNat b) 1))))]),[r3Z,.row 3 1 n (Bl (λi=>iV (g i)) (toN (Ab (wr .i64 (Ae (ofNat z) (ofNat b))) (ofNat n))) (nV k))]⟩):=Aa (bbK 17 98305) ((λc0=>[ilt (ofNat b) (ofNat n),ieq (ofNat n) 0,c0,c0,c0,c0,c0,c0,c0,c0,c0,c0,c0,c0,false,Af (ile 0 (Ab (wr .i64 (Ae (ofNat z) (ofNat b))) (ofNat n))) (ilt (Ab (wr .i64 (Ae (ofNat z) (ofNat b))) (ofNat n)) (ofNat n)),nlt (toN (Ab (wr .i64 (Ae (ofNat z) (ofNat b))) (ofNat n))) n]) (ilt 0 (ofNat b))) (by kernel_rfl) (by simp only [h13] <;> simp only [*] <;> rfl)
theorem AeH (h0:ilt (ofNat b) (ofNat n) = true) (h1:ieq (ofNat n) 0 = false) (h2:ilt 0 (ofNat b) = true) (h14:Af (ile 0 (Ab (wr .i64 (A2 (wr .i64 (Ae (Ab (wr .i64 (Ae (ofNat z) (ofNat b))) (ofNat n)) (ofNat n))) 1)) (ofNat n))) (ilt (Ab (wr .i64 (A2 (wr .i64 (Ae (Ab (wr .i64 (Ae (ofNat z) (ofNat b))) (ofNat n)) (ofNat n))) 1)) (ofNat n)) (ofNat n)) = true) (h3:Ar (f (toN (Ab (wr .i64 (A2 (wr .i64 (Ae (Ab (wr .i64 (Ae (ofNat z) (ofNat b))) (ofNat n)) (ofNat n))) 1)) (ofNat n)))) = false) (h16:Af (ile 0 (Ab (wr .i64 (Ae (ofNat z) (ofNat b))) (ofNat n))) (ilt (Ab (wr .i64 (Ae (ofNat z) (ofNat b))) (ofNat n)) (ofNat n)) = true) (h17:nlt (toN (Ab (wr .i64 (Ae (ofNat z) (ofNat b))) (ofNat n))) n = true):Ai (EB L) (H8 n f) (IU n f z b k g j) = some (.nm,⟨(jsV 97 0 (λ_=>.und) [(0,(.sl 6 n (λi=>eV (f i)))),(1,(.fn 54 [])),(4,(.ref 0)),(5,(nV n)),(6,(nV z)),(8,(.ref 1)),(9,(nV k)),(37,(nV n)),(38,(iV (wr .i64 (Ae (ofNat b) 1))))]),[r3Z,.row 3 1 n (Bl (λi=>iV (g i)) (toN (Ab (wr .i64 (Ae (ofNat z) (ofNat b))) (ofNat n))) (nV k))]⟩):=Aa (bbK 19 457725) ((λc0 c1=>[ilt (ofNat b) (ofNat n),c0,c1,c1,c1,c1,c1,c1,c1,c1,c0,c1,Af (ile 0 (Ab (wr .i64 (A2 (wr .i64 (Ae (Ab (wr .i64 (Ae (ofNat z) (ofNat b))) (ofNat n)) (ofNat n))) 1)) (ofNat n))) (ilt (Ab (wr .i64 (A2 (wr .i64 (Ae (Ab (wr .i64 (Ae (ofNat z) (ofNat b))) (ofNat n)) (ofNat n))) 1)) (ofNat n)) (ofNat n)),c1,c1,c1,Ar (f (toN (Ab (wr .i64 (A2 (wr .i64 (Ae (Ab (wr .i64 (Ae (ofNat z) (ofNat b))) (ofNat n)) (ofNat n))) 1)) (ofNat n)))),Af (ile 0 (Ab (wr .i64 (Ae (ofNat z) (ofNat b))) (ofNat n))) (ilt (Ab (wr .i64 (Ae (ofNat z) (ofNat b))) (ofNat n)) (ofNat n)),nlt (toN (Ab (wr .i64 (Ae (ofNat z) (ofNat b))) (ofNat n))) n]) (ieq (ofNat n) 0) (ilt 0 (ofNat b))) (by kernel_rfl) (by simp only [h14,h16] <;> simp only [*] <;> rfl)
theorem AeF (h0:ilt (ofNat b) (ofNat n) = true) (h1:ieq (ofNat n) 0 = false) (h2:ilt 0 (ofNat b) = true) (h14:Af (ile 0 (Ab (wr .i64 (A2 (wr .i64 (Ae (Ab (wr .i64 (Ae (ofNat z) (ofNat b))) (ofNat n)) (ofNat n))) 1)) (ofNat n))) (ilt (Ab (wr .i64 (A2 (wr .i64 (Ae (Ab (wr .i64 (Ae (ofNat z) (ofNat b))) (ofNat n)) (ofNat n))) 1)) (ofNat n)) (ofNat n)) = true) (h3:Ar (f (toN (Ab (wr .i64 (A2 (wr .i64 (Ae (Ab (wr .i64 (Ae (ofNat z) (ofNat b))) (ofNat n)) (ofNat n))) 1)) (ofNat n)))) = true) (h16:Af (ile 0 (Ab (wr .i64 (Ae (ofNat z) (ofNat b))) (ofNat n))) (ilt (Ab (wr .i64 (Ae (ofNat z) (ofNat b))) (ofNat n)) (ofNat n)) = true) (h17:nlt (toN (Ab (wr .i64 (Ae (ofNat z) (ofNat b))) (ofNat n))) n = true):Ai (EB L) (H8 n f) (IU n f z b k g j) = some (.nm,⟨(jsV 97 0 (λ_=>.und) [(0,(.sl 6 n (λi=>eV (f i)))),(1,(.fn 54 [])),(4,(.ref 0)),(5,(nV n)),(6,(nV z)),(8,(.ref 1)),(9,(iV (wr .i64 (Ae (ofNat k) 1)))),(37,(nV n)),(38,(iV (wr .i64 (Ae (ofNat b) 1))))]),[r3Z,.row 3 1 n (Bl (λi=>iV (g i)) (toN (Ab (wr .i64 (Ae (ofNat z) (ofNat b))) (ofNat n))) (iV (wr .i64 (Ae (ofNat k) 1))))]⟩):=Aa (bbK 19 523261) ((λc0 c1=>[ilt (ofNat b) (ofNat n),c0,c1,c1,c1,c1,c1,c1,c1,c1,c0,c1,Af (ile 0 (Ab (wr .i64 (A2 (wr .i64 (Ae (Ab (wr .i64 (Ae (ofNat z) (ofNat b))) (ofNat n)) (ofNat n))) 1)) (ofNat n))) (ilt (Ab (wr .i64 (A2 (wr .i64 (Ae (Ab (wr .i64 (Ae (ofNat z) (ofNat b))) (ofNat n)) (ofNat n))) 1)) (ofNat n)) (ofNat n)),c1,c1,c1,Ar (f (toN (Ab (wr .i64 (A2 (wr .i64 (Ae (Ab (wr .i64 (Ae (ofNat z) (ofNat b))) (ofNat n)) (ofNat n))) 1)) (ofNat n)))),Af (ile 0 (Ab (wr .i64 (Ae (ofNat z) (ofNat b))) (ofNat n))) (ilt (Ab (wr .i64 (Ae (ofNat z) (ofNat b))) (ofNat n)) (ofNat n)),nlt (toN (Ab (wr .i64 (Ae (ofNat z) (ofNat b))) (ofNat n))) n]) (ieq (ofNat n) 0) (ilt 0 (ofNat b))) (by kernel_rfl) (by simp only [h14,h16] <;> simp only [*] <;> rfl)
theorem AeJ (h0:ilt (ofNat b) (ofNat n) = false):Ai (EB L) (H8 n f) (IU n f z b k g j) = some ((.ex 2),⟨(jsV 97 0 (λ_=>.und) [(0,(.sl 6 n (λi=>eV (f i)))),(1,(.fn 54 [])),(4,(.ref 0)),(5,(nV n)),(8,(.ref 1))]),[r3Z,.row 3 1 n (λi=>iV (g i))]⟩):=Aa [false] [ilt (ofNat b) (ofNat n)] (by kernel_rfl) (by simp only [h0] <;> rfl)
end
def Wo (n:Nat) (f:Nat->E6) (z:Nat):St:=⟨(jsV 97 0 (λ_=>.und) [(0,(.sl 6 n (λi=>eV (f i)))),(1,(.fn 54 [])),(4,(.ref 0)),(5,(nV n)),(6,(nV z)),(8,(.ref 1)),(9,(iV 0)),(35,(nV n)),(36,(.ref 1)),(37,(nV n)),(38,(iV 0))]),[r3Z,.row 3 1 n (λ_=>iV 0)]⟩
def Jk (n:Nat) (f:Nat->E6):Lp:=⟨(bmK 97 0 [4,8,12,13,70,71]),4,bmK 97 0 [13],4,n+1⟩
def Kh (n:Nat) (f:Nat->E6) (b r:Nat) (g s o:Nat->Int) (j:Nat->V):St:=⟨(jsV 97 0 j [(4,.ref 0),(8,.ref 1),(12,.ref 2),(13,.ref 3),(70,nV n),(71,nV b)]),[.row 3 1 0 (λ_=>.und),.row 3 1 n (λi=>iV (g i)),.row 3 1 r (λi=>iV (s i)),.row 3 1 n (λi=>iV (o i))]⟩
def Oo (n:Nat) (f:Nat->E6) (b r:Nat) (g s o:Nat->Int):Ex × St:=(.ex 4,⟨(jsV 97 0 (λ_=>.und) [(13,.ref 3)]),[.row 3 1 0 (λ_=>.und),.row 3 1 n (λi=>iV (g i)),.row 3 1 r (λi=>iV (s i)),.row 3 1 n (λi=>iV (o i))]⟩)
noncomputable def FE (L:LT):St->T (Ex × St):=λst=>AF tab ⟨Ap tb53,L,Gl⟩ (A1 Try.f53 4) 4 st
section
variable (L:LT) (n:Nat) (f:Nat->E6) (b r:Nat) (g s o:Nat->Int)  (j:Nat->V)
include L n f b r g s o j
theorem Ae7 (h0:ilt (ofNat b) (ofNat n) = true) (h13:ile 0 (ofNat b) = true) (h1:nlt b n = true) (h2:CR r = true) (h3:ilt (HG r s (g b)) 0 = false):Ai (FE L) (Jk n f) (Kh n f b r g s o j) = some (.nm,⟨(jsV 97 0 (λ_=>.und) [(4,(.ref 0)),(8,(.ref 1)),(12,(.ref 2)),(13,(.ref 3)),(70,(nV n)),(71,(iV (wr .i64 (Ae (ofNat b) 1))))]),[r3Z,.row 3 1 n (λi=>iV (g i)),.row 3 1 r (λi=>iV (s i)),.row 3 1 n (Bl (λi=>iV (o i)) b (iV (HG r s (g b))))]⟩):=Aa (bbK 8 223) ((λc0 c1=>[ilt (ofNat b) (ofNat n),c0,c1,Au r (λ_=>true),CR r,ilt (HG r s (g b)) 0,c0,c1]) (Af (ile 0 (ofNat b)) (ilt (ofNat b) (ofNat n))) (nlt b n)) (by kernel_rfl) (by simp only [*,Aw] <;> rfl)
theorem Ae9 (h0:ilt (ofNat b) (ofNat n) = true) (h13:ile 0 (ofNat b) = true) (h1:nlt b n = true) (h2:CR r = true) (h3:ilt (HG r s (g b)) 0 = true) (h14:Bg r 1 8 = true):Ai (FE L) (Jk n f) (Kh n f b r g s o j) = some (.nm,⟨(jsV 97 0 (λ_=>.und) [(4,(.ref 0)),(8,(.ref 1)),(12,(.ref 2)),(13,(.ref 3)),(70,(nV n)),(71,(iV (wr .i64 (Ae (ofNat b) 1))))]),[r3Z,.row 3 1 n (λi=>iV (g i)),.row 3 1 (Bn r 1) (AE r (λi=>iV (s i)) (iV (g b))),.row 3 1 n (Bl (λi=>iV (o i)) b (nV r))]⟩):=Aa (bbK 11 2047) ((λc0 c1=>[ilt (ofNat b) (ofNat n),c0,c1,Au r (λ_=>true),CR r,ilt (HG r s (g b)) 0,c0,c1,Bg r 1 8,c0,c1]) (Af (ile 0 (ofNat b)) (ilt (ofNat b) (ofNat n))) (nlt b n)) (by kernel_rfl) (by simp only [*,Aw] <;> rfl)
theorem AeB (h0:ilt (ofNat b) (ofNat n) = false):Ai (FE L) (Jk n f) (Kh n f b r g s o j) = some ((.ex 4),⟨(jsV 97 0 (λ_=>.und) [(13,(.ref 3))]),[r3Z,.row 3 1 n (λi=>iV (g i)),.row 3 1 r (λi=>iV (s i)),.row 3 1 n (λi=>iV (o i))]⟩):=Aa [false] [ilt (ofNat b) (ofNat n)] (by kernel_rfl) (by simp only [h0] <;> rfl)
end
def Wg (n:Nat) (f:Nat->E6) (z:Nat) (g:Nat->Int):St:=⟨(jsV 97 0 (λ_=>.und) [(0,(.sl 6 n (λi=>eV (f i)))),(1,(.fn 54 [])),(4,(.ref 0)),(5,(nV n)),(8,(.ref 1)),(12,(.ref 2)),(13,(.ref 3)),(68,(nV n)),(69,(.ref 3)),(70,(nV n)),(71,(iV 0))]),[r3Z,.row 3 1 n (λi=>iV (g i)),r3Z,.row 3 1 n (λ_=>iV 0)]⟩
noncomputable abbrev Ln (L:LT) (p0:PT) (p2:PT) (p4:PT) (n:Nat) (f:Nat->E6) (z:Nat) (g:Nat->Int) (r:Nat) (gg:Nat->Int) (ss:Nat->Int) (o:Nat->Int):LT:=onP 0 p0 (UJ n f z) (onP 2 p2 (Ot n f z 0 0 g) (onP 4 p4 (Oo n f 0 r gg ss o) L))
theorem AgX (L:LT) (p0:PT) (p2:PT) (p4:PT) (n:Nat) (f:Nat->E6) (z:Nat) (g:Nat->Int) (r:Nat) (gg ss o:Nat->Int) (h0:BI 8 (ofNat n) (ofNat n) = true) (hp0:p0 (J0 (Ln L p0 p2 p4 n f z g r gg ss o)) (Pl n f 0 (AcU n f )) = true) (hp2:p2 (EB (Ln L p0 p2 p4 n f z g r gg ss o)) (Wo n f z) = true) (hp4:p4 (FE (Ln L p0 p2 p4 n f z g r gg ss o)) (Wg n f z g) = true):(Az (Ak tab ⟨Ap tb53,onP 0 p0 (UJ n f z) (onP 2 p2 (Ot n f z 0 0 g) (onP 4 p4 (Oo n f 0 r gg ss o) L)),Gl⟩ Try.f53 [.sl 6 n λi=>eV (f i),.fn 54 []] [])).sem = some ((.ref 0),[.row 3 1 n (λi=>iV (o i))]):=Aa [true,true,true,true,true] [p0 (J0 (Ln L p0 p2 p4 n f z g r gg ss o)) (Pl n f 0 (AcU n f )),BI 8 (ofNat n) (ofNat n),p2 (EB (Ln L p0 p2 p4 n f z g r gg ss o)) (Wo n f z),BI 8 (ofNat n) (ofNat n),p4 (FE (Ln L p0 p2 p4 n f z g r gg ss o)) (Wg n f z g)] (by kernel_rfl) (by simp only [hp0,hp2,hp4] <;> simp only [h0] <;> rfl)
theorem Yy (L:LT) (n:Nat) (f:Nat->E6) (hn:n <= 4611686018427387903):∀ (e i:Nat) (j:Nat->V) (q:Nat),n = i+e->e < q->(∀ k,k < i->(λk=>As (f k)) ((k+(n - 1)) % n) = false) ->
  (A9 (J1 L) (PB n f) q (Pm n f i j)).sem = some (UK n f (Ci (λk=>As (f k)) n))
 | 0,i,j,q+1,h,_,hb=>by
  have:n = i:=by omega
  subst this
  rw [OD hb]
  exact Ad (AeQ L n f n j (AD (Nat.le_refl _)))
 | e+1,i,j,q+1,h,h2,hb=>by
  have hl:i < n:=by omega
  have hx:=J2 (a:=i) (n:=n) (by omega) (by omega)
  have hin:Af (ile 0 (Ab (wr .i64 (A2 (wr .i64 (Ae (ofNat i) (ofNat n))) 1)) (ofNat n))) (ilt (Ab (wr .i64 (A2 (wr .i64 (Ae (ofNat i) (ofNat n))) 1)) (ofNat n)) (ofNat n)) = true:=by
   rw [hx]
   exact Aq (Nat.mod_lt _ (by omega))
  cases hp:As (f ((i+(n - 1)) % n)) with
  | true =>
   rw [T1 (p:=λk=>As (f k)) hl hp hb]
   exact Ad (AeM L n f i j (ofNat_lt hl) (FS (by omega)) hin (by rw [hx]; exact hp))
  | false =>
   rw [Ad (AeO L n f i j (ofNat_lt hl) (FS (by omega)) hin (by rw [hx]; exact hp)),Ax,Ao hl (by omega)]
   refine Yy L n f hn e (i+1) (λ_=>.und) q (by omega) (by omega) λk hk=>?_
   by_cases hki:k = i
   ·rw [hki]; exact hp
   ·exact hb k (by omega)
theorem Vt (L:LT) (n:Nat) (f:Nat->E6) (hn:n <= 4611686018427387903) (z:Nat) (hz:z < n):∀ (e b:Nat) (j:Nat->V) (q:Nat),n = b+e->e < q ->
  (A9 (EC L) (H9 n f) q (IV n f z b (Aj (Ea (λk=>As (f k)) n z) (b - 1)) (gN (λk=>As (f k)) n z b) j)).sem = some (Ou n f z 0 0 (gN (λk=>As (f k)) n z n))
 | 0,b,j,q+1,h,_=>by
  have:n = b:=by omega
  subst this
  exact Ad (AeK L n f z n _ _ j (AD (Nat.le_refl _)))
 | e+1,b,j,q+1,h,h2=>by
  have hl:b < n:=by omega
  have hI:Ab (wr .i64 (Ae (ofNat z) (ofNat b))) (ofNat n) = ofNat ((z+b) % n):=by rw [DF (by omega),C5]
  have hlt:(z+b) % n < n:=Nat.mod_lt _ (by omega)
  have hin:Af (ile 0 (Ab (wr .i64 (Ae (ofNat z) (ofNat b))) (ofNat n))) (ilt (Ab (wr .i64 (Ae (ofNat z) (ofNat b))) (ofNat n)) (ofNat n)) = true:=by
   rw [hI]
   exact Aq hlt
  have hnl:nlt (toN (Ab (wr .i64 (Ae (ofNat z) (ofNat b))) (ofNat n))) n = true:=by
   rw [hI]
   exact decide_eq_true hlt
  have next:=Vt L n f hn z hz e (b+1) (λ_=>.und) q (by omega) (by omega)
  rw [show b+1 - 1 = b by omega] at next
  cases b with
  | zero =>
   rw [Ad (AeE L n f z 0 _ _ j (ofNat_lt hl) (FS (by omega)) rfl hin hnl),Ax,hI,Ao hl (by omega),show toN (ofNat ((z+0) % n)) = (z+0) % n from rfl,Cl]
   have hs:=MK (p:=λk=>As (f k)) hz hl
   rw [<- hs] at next
   exact next
  | succ b =>
   have hx:Ab (wr .i64 (A2 (wr .i64 (Ae (Ab (wr .i64 (Ae (ofNat z) (ofNat (b+1)))) (ofNat n)) (ofNat n))) 1)) (ofNat n) = ofNat ((z+b) % n):=by
    rw [hI,J2 (by omega) (by omega),PX hz (by omega)]
   have hxin:Af (ile 0 (Ab (wr .i64 (A2 (wr .i64 (Ae (Ab (wr .i64 (Ae (ofNat z) (ofNat (b+1)))) (ofNat n)) (ofNat n))) 1)) (ofNat n))) (ilt (Ab (wr .i64 (A2 (wr .i64 (Ae (Ab (wr .i64 (Ae (ofNat z) (ofNat (b+1)))) (ofNat n)) (ofNat n))) 1)) (ofNat n)) (ofNat n)) = true:=by
    rw [hx]
    exact Aq (Nat.mod_lt _ (by omega))
   have hs:=MK (p:=λk=>As (f k)) hz hl
   have hc:=AX (Ea (λk=>As (f k)) n z) b
   have h0:ilt 0 (ofNat (b+1)) = true:=by rw [show (0:Int) = ofNat 0 from rfl,CJ]; simp
   rw [show b+1 - 1 = b by omega]
   cases hp:As (f ((z+b) % n)) with
   | true =>
    rw [Ad (AeG L n f z (b+1) _ _ j (ofNat_lt hl) (FS (by omega)) h0 hxin (by rw [hx]; exact hp) hin hnl),Ax,hI,Ao hl (by omega),show toN (ofNat ((z+(b+1)) % n)) = (z+(b+1)) % n from rfl,Ao (show Aj (Ea (λk=>As (f k)) n z) b < n by omega) (by omega),Cl,<- Bi (p:=Ea (λk=>As (f k)) n z) (i:=b) hp,hs]
    exact next
   | false =>
    rw [Ad (AeI L n f z (b+1) _ _ j (ofNat_lt hl) (FS (by omega)) h0 hxin (by rw [hx]; exact hp) hin hnl),Ax,hI,Ao hl (by omega),show toN (ofNat ((z+(b+1)) % n)) = (z+(b+1)) % n from rfl,Cl,<- Br (p:=Ea (λk=>As (f k)) n z) (i:=b) hp,hs]
    exact next
theorem Vr (L:LT) (n:Nat) (f:Nat->E6) (p:Nat->Bool) (hn:n * 8 <= 140737488355328) (z:Nat) (g:Nat->Int) (hg:∀ i,i < n->g i = ofNat (snN p n z (Bc p n i))):∀ (e b:Nat) (j:Nat->V) (q:Nat),n = b+e->e < q ->
  (A9 (FF L) (Jl n f) q (Ki n f b (rN p n b) g (EM p n z b) (Uv p n b) j)).sem = some (Oq n f 0 (rN p n n) g (EM p n z n) (Av p n))
 | 0,b,j,q+1,h,_=>by
  have:n = b:=by omega
  subst this
  rw [<- YM p n]
  exact Ad (AeC L n f n _ _ _ _ j (AD (Nat.le_refl _)))
 | e+1,b,j,q+1,h,h2=>by
  have hl:b < n:=by omega
  have hr:=Sg p n b
  have h8:CR (rN p n b) = true:=by
   unfold CR
   simp
   omega
  have hnl:nlt b n = true:=by simpa [nlt] using hl
  have next:=Vr L n f p hn z g hg e (b+1) (λ_=>.und) q (by omega) (by omega)
  rcases Nat.lt_or_ge (Bc p n b) (rN p n b) with hc | hc
  ·have hi:=RW (z:=z) hl hc
   rw [<- hg b hl] at hi
   obtain ⟨e1,e2⟩:=Ns (z:=z) hc
   rw [Ad (Ae8 L n f b _ g _ _ j (ofNat_lt hl) (AI b) hnl h8 (by rw [hi]; simp [ilt])),Ax,Ao hl (by omega),hi,Cl,Ji hl]
   rw [e1,e2] at next
   exact next
  ·have hc:Bc p n b = rN p n b:=Nat.le_antisymm (Kt p n b hl) hc
   have hi:=RX (z:=z) hl hc
   rw [<- hg b hl] at hi
   obtain ⟨e1,e2⟩:=Pq (z:=z) hc
   rw [<- hg b hl] at e1
   rw [Ad (AeA L n f b _ g _ _ j (ofNat_lt hl) (AI b) hnl h8 (by rw [hi]; rfl) (Ca (by omega))),Ax,Ao hl (by omega),e1,Cl,<- hc,Ji hl]
   rw [e2,<- hc] at next
   exact next
def Va:List (Nat × List (Nat × V)):=[(4,[(2,iV 0)])]
def QF (n:Nat) (f:Nat->E6):List (Nat × Lp):=[(0,PB n f),(2,H9 n f),(4,Jl n f)]
theorem Acj (n:Nat) (f:Nat->E6) (z:Nat) (g:Nat->Int):CS (Wh n f z g) [(2,iV 0)] = Ki n f 0 0 g (λ_=>0) (λ_=>0) (λi=>nth (Wh n f z g).t i):=by kernel_rfl
theorem AgD (n:Nat) (f:Nat->E6) (z:Nat):Wp n f z = IV n f z 0 0 (λ_=>0) (λi=>nth (Wp n f z).t i):=by kernel_rfl
theorem AaA (n:Nat) (f:Nat->E6) (hp:0 < n) (h8:n * 8 <= 140737488355328) (hm:BI 8 (ofNat n) (ofNat n) = true) :
  (Az (Ak tab (cxZ Gl tb53 Va (QF n f)) Try.f53 [A4 n f,.fn 52 []] [])).sem = some (.ref 0,[.row 3 1 n λk=>iV (Av (λk=>As (f k)) n k)]):=by
 have hL:=DU Va (QF n f)
 have hz:=T0 (λk=>As (f k)) hp
 have hb:=OC (λk=>As (f k)) hp
 refine A7 (Ay (Ay (Ay hL hL) hL) hL) _ (AgY _ _ _ _ n f (Ci (λk=>As (f k)) n) (gN (λk=>As (f k)) n (Ci (λk=>As (f k)) n) n) (rN (λk=>As (f k)) n n) (gN (λk=>As (f k)) n (Ci (λk=>As (f k)) n) n) (EM (λk=>As (f k)) n (Ci (λk=>As (f k)) n) n) (Av (λk=>As (f k)) n) hm
  (Am ?_) (Am ?_) (Am ?_))
 ·show (A9 _ (PB n f) (n+1) _).sem = _
  exact Yy _ n f (by omega) n 0 _ (n+1) (by omega) (by omega) (λk hk=>absurd hk (Nat.not_lt_zero _))
 ·show (A9 _ (H9 n f) (n+1) _).sem = _
  rw [AgD]
  have h:=λL j=>Vt L n f (by omega) _ hz n 0 j (n+1) (by omega) (by omega)
  simp only [Ajy] at h
  exact h _ _
 ·show (A9 _ (Jl n f) (n+1) (CS _ [(2,iV 0)])).sem = _
  rw [Acj]
  exact Vr _ n f (λk=>As (f k)) h8 (Ci (λk=>As (f k)) n) _ (λi hi=>Z4 hb hi) n 0 _ (n+1) (by omega) (by omega)
theorem Yx (L:LT) (n:Nat) (f:Nat->E6) (hn:n <= 4611686018427387903):∀ (e i:Nat) (j:Nat->V) (q:Nat),n = i+e->e < q->(∀ k,k < i->(λk=>Ar (f k)) ((k+(n - 1)) % n) = false) ->
  (A9 (J0 L) (PA n f) q (Pl n f i j)).sem = some (UJ n f (Ci (λk=>Ar (f k)) n))
 | 0,i,j,q+1,h,_,hb=>by
  have:n = i:=by omega
  subst this
  rw [OD hb]
  exact Ad (AeP L n f n j (AD (Nat.le_refl _)))
 | e+1,i,j,q+1,h,h2,hb=>by
  have hl:i < n:=by omega
  have hx:=J2 (a:=i) (n:=n) (by omega) (by omega)
  have hin:Af (ile 0 (Ab (wr .i64 (A2 (wr .i64 (Ae (ofNat i) (ofNat n))) 1)) (ofNat n))) (ilt (Ab (wr .i64 (A2 (wr .i64 (Ae (ofNat i) (ofNat n))) 1)) (ofNat n)) (ofNat n)) = true:=by
   rw [hx]
   exact Aq (Nat.mod_lt _ (by omega))
  cases hp:Ar (f ((i+(n - 1)) % n)) with
  | true =>
   rw [T1 (p:=λk=>Ar (f k)) hl hp hb]
   exact Ad (AeL L n f i j (ofNat_lt hl) (FS (by omega)) hin (by rw [hx]; exact hp))
  | false =>
   rw [Ad (AeN L n f i j (ofNat_lt hl) (FS (by omega)) hin (by rw [hx]; exact hp)),Ax,Ao hl (by omega)]
   refine Yx L n f hn e (i+1) (λ_=>.und) q (by omega) (by omega) λk hk=>?_
   by_cases hki:k = i
   ·rw [hki]; exact hp
   ·exact hb k (by omega)
theorem Vs (L:LT) (n:Nat) (f:Nat->E6) (hn:n <= 4611686018427387903) (z:Nat) (hz:z < n):∀ (e b:Nat) (j:Nat->V) (q:Nat),n = b+e->e < q ->
  (A9 (EB L) (H8 n f) q (IU n f z b (Aj (Ea (λk=>Ar (f k)) n z) (b - 1)) (gN (λk=>Ar (f k)) n z b) j)).sem = some (Ot n f z 0 0 (gN (λk=>Ar (f k)) n z n))
 | 0,b,j,q+1,h,_=>by
  have:n = b:=by omega
  subst this
  exact Ad (AeJ L n f z n _ _ j (AD (Nat.le_refl _)))
 | e+1,b,j,q+1,h,h2=>by
  have hl:b < n:=by omega
  have hI:Ab (wr .i64 (Ae (ofNat z) (ofNat b))) (ofNat n) = ofNat ((z+b) % n):=by rw [DF (by omega),C5]
  have hlt:(z+b) % n < n:=Nat.mod_lt _ (by omega)
  have hin:Af (ile 0 (Ab (wr .i64 (Ae (ofNat z) (ofNat b))) (ofNat n))) (ilt (Ab (wr .i64 (Ae (ofNat z) (ofNat b))) (ofNat n)) (ofNat n)) = true:=by
   rw [hI]
   exact Aq hlt
  have hnl:nlt (toN (Ab (wr .i64 (Ae (ofNat z) (ofNat b))) (ofNat n))) n = true:=by
   rw [hI]
   exact decide_eq_true hlt
  have next:=Vs L n f hn z hz e (b+1) (λ_=>.und) q (by omega) (by omega)
  rw [show b+1 - 1 = b by omega] at next
  cases b with
  | zero =>
   rw [Ad (AeD L n f z 0 _ _ j (ofNat_lt hl) (FS (by omega)) rfl hin hnl),Ax,hI,Ao hl (by omega),show toN (ofNat ((z+0) % n)) = (z+0) % n from rfl,Cl]
   have hs:=MK (p:=λk=>Ar (f k)) hz hl
   rw [<- hs] at next
   exact next
  | succ b =>
   have hx:Ab (wr .i64 (A2 (wr .i64 (Ae (Ab (wr .i64 (Ae (ofNat z) (ofNat (b+1)))) (ofNat n)) (ofNat n))) 1)) (ofNat n) = ofNat ((z+b) % n):=by
    rw [hI,J2 (by omega) (by omega),PX hz (by omega)]
   have hxin:Af (ile 0 (Ab (wr .i64 (A2 (wr .i64 (Ae (Ab (wr .i64 (Ae (ofNat z) (ofNat (b+1)))) (ofNat n)) (ofNat n))) 1)) (ofNat n))) (ilt (Ab (wr .i64 (A2 (wr .i64 (Ae (Ab (wr .i64 (Ae (ofNat z) (ofNat (b+1)))) (ofNat n)) (ofNat n))) 1)) (ofNat n)) (ofNat n)) = true:=by
    rw [hx]
    exact Aq (Nat.mod_lt _ (by omega))
   have hs:=MK (p:=λk=>Ar (f k)) hz hl
   have hc:=AX (Ea (λk=>Ar (f k)) n z) b
   have h0:ilt 0 (ofNat (b+1)) = true:=by rw [show (0:Int) = ofNat 0 from rfl,CJ]; simp
   rw [show b+1 - 1 = b by omega]
   cases hp:Ar (f ((z+b) % n)) with
   | true =>
    rw [Ad (AeF L n f z (b+1) _ _ j (ofNat_lt hl) (FS (by omega)) h0 hxin (by rw [hx]; exact hp) hin hnl),Ax,hI,Ao hl (by omega),show toN (ofNat ((z+(b+1)) % n)) = (z+(b+1)) % n from rfl,Ao (show Aj (Ea (λk=>Ar (f k)) n z) b < n by omega) (by omega),Cl,<- Bi (p:=Ea (λk=>Ar (f k)) n z) (i:=b) hp,hs]
    exact next
   | false =>
    rw [Ad (AeH L n f z (b+1) _ _ j (ofNat_lt hl) (FS (by omega)) h0 hxin (by rw [hx]; exact hp) hin hnl),Ax,hI,Ao hl (by omega),show toN (ofNat ((z+(b+1)) % n)) = (z+(b+1)) % n from rfl,Cl,<- Br (p:=Ea (λk=>Ar (f k)) n z) (i:=b) hp,hs]
    exact next
theorem Vq (L:LT) (n:Nat) (f:Nat->E6) (p:Nat->Bool) (hn:n * 8 <= 140737488355328) (z:Nat) (g:Nat->Int) (hg:∀ i,i < n->g i = ofNat (snN p n z (Bc p n i))):∀ (e b:Nat) (j:Nat->V) (q:Nat),n = b+e->e < q ->
  (A9 (FE L) (Jk n f) q (Kh n f b (rN p n b) g (EM p n z b) (Uv p n b) j)).sem = some (Oo n f 0 (rN p n n) g (EM p n z n) (Av p n))
 | 0,b,j,q+1,h,_=>by
  have:n = b:=by omega
  subst this
  rw [<- YM p n]
  exact Ad (AeB L n f n _ _ _ _ j (AD (Nat.le_refl _)))
 | e+1,b,j,q+1,h,h2=>by
  have hl:b < n:=by omega
  have hr:=Sg p n b
  have h8:CR (rN p n b) = true:=by
   unfold CR
   simp
   omega
  have hnl:nlt b n = true:=by simpa [nlt] using hl
  have next:=Vq L n f p hn z g hg e (b+1) (λ_=>.und) q (by omega) (by omega)
  rcases Nat.lt_or_ge (Bc p n b) (rN p n b) with hc | hc
  ·have hi:=RW (z:=z) hl hc
   rw [<- hg b hl] at hi
   obtain ⟨e1,e2⟩:=Ns (z:=z) hc
   rw [Ad (Ae7 L n f b _ g _ _ j (ofNat_lt hl) (AI b) hnl h8 (by rw [hi]; simp [ilt])),Ax,Ao hl (by omega),hi,Cl,Ji hl]
   rw [e1,e2] at next
   exact next
  ·have hc:Bc p n b = rN p n b:=Nat.le_antisymm (Kt p n b hl) hc
   have hi:=RX (z:=z) hl hc
   rw [<- hg b hl] at hi
   obtain ⟨e1,e2⟩:=Pq (z:=z) hc
   rw [<- hg b hl] at e1
   rw [Ad (Ae9 L n f b _ g _ _ j (ofNat_lt hl) (AI b) hnl h8 (by rw [hi]; rfl) (Ca (by omega))),Ax,Ao hl (by omega),e1,Cl,<- hc,Ji hl]
   rw [e2,<- hc] at next
   exact next
def UZ:List (Nat × List (Nat × V)):=[(4,[(2,iV 0)])]
def QE (n:Nat) (f:Nat->E6):List (Nat × Lp):=[(0,PA n f),(2,H8 n f),(4,Jk n f)]
theorem Aci (n:Nat) (f:Nat->E6) (z:Nat) (g:Nat->Int):CS (Wg n f z g) [(2,iV 0)] = Kh n f 0 0 g (λ_=>0) (λ_=>0) (λi=>nth (Wg n f z g).t i):=by kernel_rfl
theorem AgC (n:Nat) (f:Nat->E6) (z:Nat):Wo n f z = IU n f z 0 0 (λ_=>0) (λi=>nth (Wo n f z).t i):=by kernel_rfl
theorem Aa9 (n:Nat) (f:Nat->E6) (hp:0 < n) (h8:n * 8 <= 140737488355328) (hm:BI 8 (ofNat n) (ofNat n) = true) :
  (Az (Ak tab (cxZ Gl tb53 UZ (QE n f)) Try.f53 [A4 n f,.fn 54 []] [])).sem = some (.ref 0,[.row 3 1 n λk=>iV (Av (λk=>Ar (f k)) n k)]):=by
 have hL:=DU UZ (QE n f)
 have hz:=T0 (λk=>Ar (f k)) hp
 have hb:=OC (λk=>Ar (f k)) hp
 refine A7 (Ay (Ay (Ay hL hL) hL) hL) _ (AgX _ _ _ _ n f (Ci (λk=>Ar (f k)) n) (gN (λk=>Ar (f k)) n (Ci (λk=>Ar (f k)) n) n) (rN (λk=>Ar (f k)) n n) (gN (λk=>Ar (f k)) n (Ci (λk=>Ar (f k)) n) n) (EM (λk=>Ar (f k)) n (Ci (λk=>Ar (f k)) n) n) (Av (λk=>Ar (f k)) n) hm
  (Am ?_) (Am ?_) (Am ?_))
 ·show (A9 _ (PA n f) (n+1) _).sem = _
  exact Yx _ n f (by omega) n 0 _ (n+1) (by omega) (by omega) (λk hk=>absurd hk (Nat.not_lt_zero _))
 ·show (A9 _ (H8 n f) (n+1) _).sem = _
  rw [AgC]
  have h:=λL j=>Vs L n f (by omega) _ hz n 0 j (n+1) (by omega) (by omega)
  simp only [Ajy] at h
  exact h _ _
 ·show (A9 _ (Jk n f) (n+1) (CS _ [(2,iV 0)])).sem = _
  rw [Aci]
  exact Vq _ n f (λk=>Ar (f k)) h8 (Ci (λk=>Ar (f k)) n) _ (λi hi=>Z4 hb hi) n 0 _ (n+1) (by omega) (by omega)
noncomputable def Agq:List V->T (V × List Blk)
 | [v,.fn g []]=>apL v λn f=>.br (Af (ilt 0 (ofNat n)) (Af (CR n) (BI 8 (ofNat n) (ofNat n)))) (match Nat.beq g 52,Nat.beq g 54 with
  | true,_=>.leaf (.ref 0,[.row 3 1 n λk=>iV (Av (λk=>As (f k)) n k)])
  | _,true=>.leaf (.ref 0,[.row 3 1 n λk=>iV (Av (λk=>Ar (f k)) n k)])
  | _,_=>.fail) .fail
 | _=>.fail
theorem p53:A6 Try.prog Gl 53 Agq:=by
 refine A5 AO AP Try.func53 (by kernel_rfl) (by kernel_rfl) λvs v h' h=>?_
 unfold Agq at h
 split at h
 ·rename_i u g
  obtain ⟨n,f,ha,h1⟩:=Cj h
  obtain ⟨h8,hq⟩:=Ag h1
  have h8:ilt 0 (ofNat n) = true ∧ CR n = true ∧ BI 8 (ofNat n) (ofNat n) = true:=by simpa [Af] using h8
  obtain ⟨h9,h8,hm⟩:=h8
  have h9:0 < n:=by rw [show (0:Int) = ofNat 0 from rfl,CJ] at h9; simpa using h9
  have h8':n * 8 <= 140737488355328:=of_decide_eq_true h8
  have hA:BJ [u,.fn g []] [A4 n f,.fn g []]:=λS w cs hv=>by
   obtain ⟨c,l,rfl,q1,q2⟩:=hv
   exact ⟨c,l,rfl,ha S w c q1,q2⟩
  cases h52:Nat.beq g 52 with
  | true =>
   rw [h52] at hq
   have he:=Nat.eq_of_beq_eq_true h52
   subst he
   have:=Ac hq
   simp only [Prod.mk.injEq] at this
   obtain ⟨rfl,rfl⟩:=this
   have hx:=JW tb53_ok Va (QF n f) (G:=Gl)
   exact ⟨_,cxZ Gl tb53 Va (QF n f),_,hA,rfl,hx.1,hx.2,AaA n f h9 h8' hm,AC.refl _⟩
  | false =>
   rw [h52] at hq
   cases h54:Nat.beq g 54 with
   | true =>
    rw [h54] at hq
    have he:=Nat.eq_of_beq_eq_true h54
    subst he
    have:=Ac hq
    simp only [Prod.mk.injEq] at this
    obtain ⟨rfl,rfl⟩:=this
    have hx:=JW tb53_ok UZ (QE n f) (G:=Gl)
    exact ⟨_,cxZ Gl tb53 UZ (QE n f),_,hA,rfl,hx.1,hx.2,Aa9 n f h9 h8' hm,AC.refl _⟩
   | false =>
    rw [h54] at hq
    cases hq
 ·cases h
end Go.Proofs.Ytjhnfomefcngfaa.Sh
