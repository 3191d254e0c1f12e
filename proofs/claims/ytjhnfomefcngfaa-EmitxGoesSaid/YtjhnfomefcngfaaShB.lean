/-
  Layer 7: the program's numbers of threads and of locations (met) are the document's parts. No conditions.
-/
import Derived.Test.YtjhnfomefcngfaaShBa
import Derived.Test.YtjhnfomefcngfaaCyR
namespace Go.Proofs.Ytjhnfomefcngfaa.Sh
open Go.Sy Ed
open Int (ofNat)
noncomputable def tb53:List (Nat × (List V->T (V × List Blk))):=[(52,BR λe=>bV (As e)),(54,BR λe=>bV (Ar e)),(92,U2)]
theorem tb53_ok:AC Try.prog Gl tb53:=.cons p52 <| .cons p54 <| .cons p92 .nil
theorem Bu {a n:Nat} (h:a < 2 * n):a % n = if a < n then a else a - n:=by
 split
 ·rename_i h1; exact Nat.mod_eq_of_lt h1
 ·rename_i h1
  have h1:n <= a:=Nat.le_of_not_lt h1
  rw [Nat.mod_eq_sub_mod h1,Nat.mod_eq_of_lt (by omega)]
theorem Agc {n z b:Nat} (hz:z < n) (hb:b < n):posN n z ((z+b) % n) = b:=by
 unfold posN
 rw [Bu (a:=z+b) (by omega)]
 split
 ·rw [Bu (by omega)]; split <;> omega
 ·rw [Bu (by omega)]; split <;> omega
theorem Abs {n z i:Nat} (hz:z < n) (hi:i < n):(z+posN n z i) % n = i:=by
 unfold posN
 rw [Bu (a:=i+(n - z)) (by omega)]
 split
 ·rw [Bu (by omega)]; split <;> omega
 ·rw [Bu (by omega)]; split <;> omega
theorem PS {n z b:Nat} (hz:z < n) (hb:b < n):((z+(b+1)) % n+(n - 1)) % n = (z+b) % n:=by
 rcases Nat.lt_or_ge (b+1) n with h | h
 ·rw [Bu (a:=z+(b+1)) (by omega),Bu (a:=z+b) (by omega)]
  split <;> split <;> (rw [Bu (by omega)]; split <;> omega)
 ·have:b+1 = n:=by omega
  rw [this,Nat.add_mod_right,Nat.mod_eq_of_lt hz]
  rw [Bu (by omega),Bu (a:=z+b) (by omega)]
  split <;> split <;> omega
theorem FP {n:Nat} (h:0 < n):ieq (ofNat n) 0 = false:=by
 simp [ieq]
 omega
theorem J4 {a n:Nat} (hn:0 < n) (h:a+n <= 9223372036854775807):Ab (wr .i64 (Au (wr .i64 (Ae (ofNat a) (ofNat n))) 1)) (ofNat n) = ofNat ((a+(n - 1)) % n):=by
 rw [DI h]
 have:wr .i64 (Au (ofNat (a+n)) 1) = ofNat (a+(n - 1)):=by
  have:ofNat (a+n) = ofNat (a+(n - 1)+1):=by congr 1; omega
  rw [this]
  unfold wr Au IntKind.wrap
  simp [IntKind.bits,IntKind.signed]
  omega
 rw [this,C9]
def Ck (p:Nat->Bool) (n:Nat):Nat:=match (List.range n).find? λi=>p ((i+(n - 1)) % n) with
 | some z=>z
 | none=>0
theorem Tw {p:Nat->Bool} {n i:Nat} (hi:i < n) (h:p ((i+(n - 1)) % n) = true) (hb:∀ k,k < i->p ((k+(n - 1)) % n) = false):Ck p n = i:=by
 unfold Ck
 have:(List.range n).find? (λi=>p ((i+(n - 1)) % n)) = some i:=by
  rw [List.find?_range_eq_some]
  exact ⟨h,by simpa using hi,λj hj=>by rw [hb j hj]; rfl⟩
 rw [this]
theorem OC {p:Nat->Bool} {n:Nat} (hb:∀ k,k < n->p ((k+(n - 1)) % n) = false):Ck p n = 0:=by
 unfold Ck
 have:(List.range n).find? (λi=>p ((i+(n - 1)) % n)) = none:=by
  rw [List.find?_eq_none]
  intro k hk
  rw [hb k (by simpa using hk)]
  simp
 rw [this]
theorem OB (p:Nat->Bool) {n:Nat} (hn:0 < n):Begin p n (Ck p n):=by
 cases h:(List.range n).find? (λi=>p ((i+(n - 1)) % n)) with
 | none =>
  have hz:Ck p n = 0:=by unfold Ck; rw [h]
  rw [hz]
  rw [List.find?_eq_none] at h
  refine .none λk hk=>?_
  have:=h ((k+1) % n) (by simpa using Nat.mod_lt _ hn)
  rw [show ((k+1) % n+(n - 1)) % n = k by
   rw [Bu (a:=k+1) (by omega)]
   split <;> (rw [Bu (by omega)]; split <;> omega)] at this
  simpa using this
 | some z =>
  have hz:Ck p n = z:=by unfold Ck; rw [h]
  rw [hz]
  rw [List.find?_range_eq_some] at h
  obtain ⟨h1,h2,h3⟩:=h
  have h2:z < n:=by simpa using h2
  have at':∀ k,0 < k->k < n->(k+(n - 1)) % n = k - 1:=λk h0 hk=>by
   rw [Bu (by omega)]; split <;> omega
  have at0:(0+(n - 1)) % n = n - 1:=by rw [Nat.zero_add,Nat.mod_eq_of_lt (by omega)]
  rcases Nat.eq_zero_or_pos z with h0 | h0
  ·subst h0
   rw [at0] at h1
   exact .last hn h1
  ·rw [at' z h0 h2] at h1
   refine .first h0 h2 h1 (λk hk=>?_) ?_
   ·have:=h3 (k+1) (by omega)
    rw [at' (k+1) (by omega) (by omega)] at this
    simpa using this
   ·have:=h3 0 h0
    rw [at0] at this
    simpa using this
theorem Tv (p:Nat->Bool) {n:Nat} (hn:0 < n):Ck p n < n:=by
 have h:=OB p hn
 generalize Ck p n = z at h
 cases h with
 | none _=>exact hn
 | last _ _=>exact hn
 | first _ h _ _ _=>exact h
def gN (p:Nat->Bool) (n z b i:Nat):Int:=if i < n ∧ posN n z i < b then ofNat (Ak (Ec p n z) (posN n z i)) else 0
theorem Ajh (p:Nat->Bool) (n z:Nat):gN p n z 0 = λ_=>0:=by
 funext i
 simp [gN]
theorem MK {p:Nat->Bool} {n z b:Nat} (hz:z < n) (hb:b < n):MZ (gN p n z b) ((z+b) % n) (ofNat (Ak (Ec p n z) b)) = gN p n z (b+1):=by
 funext i
 unfold MZ
 by_cases hi:i = (z+b) % n
 ·subst hi
  rw [show decide ((z+b) % n = (z+b) % n) = true by simp]
  simp only [cond_true]
  unfold gN
  rw [Agc hz hb,if_pos ⟨Nat.mod_lt _ (by omega),by omega⟩]
 ·rw [show decide (i = (z+b) % n) = false by simpa using hi]
  simp only [cond_false]
  unfold gN
  by_cases hin:i < n
  ·have hp:posN n z i ≠ b:=λhe=>hi (by rw [<- he,Abs hz hin])
   by_cases h1:posN n z i < b
   ·rw [if_pos ⟨hin,h1⟩,if_pos ⟨hin,by omega⟩]
   ·rw [if_neg (λh=>h1 h.2),if_neg (λh=>by have:=h.2; omega)]
  ·rw [if_neg (λh=>hin h.1),if_neg (λh=>hin h.1)]
theorem Z0 {p:Nat->Bool} {n z i:Nat} (hb:Begin p n z) (hi:i < n):gN p n z n i = ofNat (snN p n z (Ba p n i)):=by
 unfold gN
 rw [if_pos ⟨hi,show (i+(n - z)) % n < n from Nat.mod_lt _ (by omega)⟩,Abt hb hi]
def EO (p:Nat->Bool) (n z b i:Nat):Int:=if i < rN p n b then ofNat (snN p n z i) else 0
def Up (p:Nat->Bool) (n b i:Nat):Int:=if i < b then Av p n i else 0
theorem YL (p:Nat->Bool) (n:Nat):Up p n n = Av p n:=by
 funext i
 unfold Up
 split
 ·rfl
 ·rename_i h
  unfold Av
  rw [show decide (i < n) = false by simpa using h]
  rfl
theorem Jj {p:Nat->Bool} {n b:Nat} (hb:b < n):MZ (Up p n b) b (ofNat (Ba p n b)) = Up p n (b+1):=by
 funext i
 unfold MZ Up
 by_cases hi:i = b
 ·subst hi
  rw [if_pos (Nat.lt_succ_self i),Fz hb]
  simp
 ·rw [show decide (i = b) = false by simpa using hi]
  simp only [cond_false]
  by_cases h1:i < b
  ·rw [if_pos h1,if_pos (by omega)]
  ·rw [if_neg h1,if_neg (by omega)]
theorem Nr {p:Nat->Bool} {n z b:Nat} (h:Ba p n b < rN p n b):EO p n z (b+1) = EO p n z b ∧ rN p n (b+1) = rN p n b:=by
 have:rN p n (b+1) = rN p n b:=by rw [rN,if_pos h]
 exact ⟨by funext i; unfold EO; rw [this],this⟩
theorem Pm {p:Nat->Bool} {n z b:Nat} (h:Ba p n b = rN p n b):AB (rN p n b) (λi=>iV (EO p n z b i)) (iV (ofNat (snN p n z (Ba p n b)))) = (λi=>iV (EO p n z (b+1) i)) ∧ rN p n (b+1) = rN p n b+1:=by
 have hr:rN p n (b+1) = rN p n b+1:=by rw [rN,if_neg (by omega)]
 refine ⟨?_,hr⟩
 funext k
 rw [BF,show Nat.beq k (rN p n b) = decide (k = rN p n b) by rw [Bool.eq_iff_iff]; simp]
 unfold EO
 rw [hr]
 by_cases hk:k = rN p n b
 ·rw [hk,h]; simp
 ·by_cases h2:k < rN p n b
  ·have:k < rN p n b+1:=by omega
   simp [hk,h2,this]
  ·have:¬ k < rN p n b+1:=by omega
   simp [hk,h2,this]
theorem RT {p:Nat->Bool} {n z b:Nat} (hb:b < n) (h:Ba p n b < rN p n b):HG (rN p n b) (EO p n z b) (ofNat (snN p n z (Ba p n b))) = ofNat (Ba p n b):=by
 refine PD h ?_ λk hk=>?_
 ·unfold EO
  rw [if_pos h]
  simp [ieq]
 ·unfold EO
  rw [if_pos (by omega)]
  have:=AcC p n b (by omega) _ h
  cases he:ieq (ofNat (snN p n z (Ba p n b))) (ofNat (snN p n z k)) with
  | false=>rfl
  | true =>
   have he:=Int.ofNat.inj ((beq_iff_eq (α:=Int)).1 he)
   have:=Yc (p:=p) (n:=n) (z:=z) (Nat.le_of_lt hk) this he.symm
   omega
theorem RU {p:Nat->Bool} {n z b:Nat} (hb:b < n) (h:Ba p n b = rN p n b):HG (rN p n b) (EO p n z b) (ofNat (snN p n z (Ba p n b))) = -1:=by
 refine SO λk hk=>?_
 unfold EO
 rw [if_pos hk]
 cases he:ieq (ofNat (snN p n z (Ba p n b))) (ofNat (snN p n z k)) with
 | false=>rfl
 | true =>
  have he:=Int.ofNat.inj ((beq_iff_eq (α:=Int)).1 he)
  have:=Yc (p:=p) (n:=n) (z:=z) (show k <= Ba p n b by omega) (N5 (by omega)) he.symm
  omega
def P8 (n:Nat) (f:Nat->E6):Lp:=⟨(bmK 97 0 [0,1,4,5,6,18,19]),1,bmK 97 0 [0,1,4,5,6],1,n+1⟩
def Pi (n:Nat) (f:Nat->E6) (b:Nat) (j:Nat->V):St:=⟨(jsV 97 0 j [(0,.sl 6 n λi=>eV (f i)),(1,.fn 52 []),(4,.ref 0),(5,nV n),(6,iV 0),(18,nV n),(19,nV b)]),[.row 3 1 0 (λ_=>.und)]⟩
def UD (n:Nat) (f:Nat->E6) (b:Nat):Ex × St:=(.ex 0,⟨(jsV 97 0 (λ_=>.und) [(0,.sl 6 n λi=>eV (f i)),(1,.fn 52 []),(4,.ref 0),(5,nV n),(6,nV b)]),[.row 3 1 0 (λ_=>.und)]⟩)
noncomputable def J3 (L:LT):St->T (Ex × St):=λst=>AG tab ⟨Aq tb53,L,Gl⟩ (A1 Try.f53 0) 0 st
section
variable (L:LT) (n:Nat) (f:Nat->E6) (b:Nat)  (j:Nat->V)
include L n f b j
theorem AeH (h0:ilt (ofNat b) (ofNat n) = true) (h1:ieq (ofNat n) 0 = false) (h13:Af (ile 0 (Ab (wr .i64 (Au (wr .i64 (Ae (ofNat b) (ofNat n))) 1)) (ofNat n))) (ilt (Ab (wr .i64 (Au (wr .i64 (Ae (ofNat b) (ofNat n))) 1)) (ofNat n)) (ofNat n)) = true) (h2:As (f (toN (Ab (wr .i64 (Au (wr .i64 (Ae (ofNat b) (ofNat n))) 1)) (ofNat n)))) = false):Aj (J3 L) (P8 n f) (Pi n f b j) = some (.nm,⟨(jsV 97 0 (λ_=>.und) [(0,(.sl 6 n (λi=>eV (f i)))),(1,(.fn 52 [])),(4,(.ref 0)),(5,(nV n)),(6,(iV 0)),(18,(nV n)),(19,(iV (wr .i64 (Ae (ofNat b) 1))))]),[r3Z]⟩):=Aa [true,false,true,false] [ilt (ofNat b) (ofNat n),ieq (ofNat n) 0,Af (ile 0 (Ab (wr .i64 (Au (wr .i64 (Ae (ofNat b) (ofNat n))) 1)) (ofNat n))) (ilt (Ab (wr .i64 (Au (wr .i64 (Ae (ofNat b) (ofNat n))) 1)) (ofNat n)) (ofNat n)),As (f (toN (Ab (wr .i64 (Au (wr .i64 (Ae (ofNat b) (ofNat n))) 1)) (ofNat n))))] (by kernel_rfl) (by simp only [h13] <;> simp only [*] <;> rfl)
theorem AeF (h0:ilt (ofNat b) (ofNat n) = true) (h1:ieq (ofNat n) 0 = false) (h13:Af (ile 0 (Ab (wr .i64 (Au (wr .i64 (Ae (ofNat b) (ofNat n))) 1)) (ofNat n))) (ilt (Ab (wr .i64 (Au (wr .i64 (Ae (ofNat b) (ofNat n))) 1)) (ofNat n)) (ofNat n)) = true) (h2:As (f (toN (Ab (wr .i64 (Au (wr .i64 (Ae (ofNat b) (ofNat n))) 1)) (ofNat n)))) = true):Aj (J3 L) (P8 n f) (Pi n f b j) = some ((.ex 0),⟨(jsV 97 0 (λ_=>.und) [(0,(.sl 6 n (λi=>eV (f i)))),(1,(.fn 52 [])),(4,(.ref 0)),(5,(nV n)),(6,(nV b))]),[r3Z]⟩):=Aa [true,false,true,true] [ilt (ofNat b) (ofNat n),ieq (ofNat n) 0,Af (ile 0 (Ab (wr .i64 (Au (wr .i64 (Ae (ofNat b) (ofNat n))) 1)) (ofNat n))) (ilt (Ab (wr .i64 (Au (wr .i64 (Ae (ofNat b) (ofNat n))) 1)) (ofNat n)) (ofNat n)),As (f (toN (Ab (wr .i64 (Au (wr .i64 (Ae (ofNat b) (ofNat n))) 1)) (ofNat n))))] (by kernel_rfl) (by simp only [h13] <;> simp only [*] <;> rfl)
theorem AeJ (h0:ilt (ofNat b) (ofNat n) = false):Aj (J3 L) (P8 n f) (Pi n f b j) = some ((.ex 0),⟨(jsV 97 0 (λ_=>.und) [(0,(.sl 6 n (λi=>eV (f i)))),(1,(.fn 52 [])),(4,(.ref 0)),(5,(nV n)),(6,(iV 0))]),[r3Z]⟩):=Aa [false] [ilt (ofNat b) (ofNat n)] (by kernel_rfl) (by simp only [h0] <;> rfl)
end
def AcR (n:Nat) (f:Nat->E6) :Nat->V:=lkV A9 [(16,(.sl 6 n (λi=>eV (f i)))),(17,(nV n))]
def HA (n:Nat) (f:Nat->E6):Lp:=⟨(bmK 97 0 [0,1,4,5,6,8,9,37,38]),2,bmK 97 0 [0,1,4,5,8],2,n+1⟩
def IW (n:Nat) (f:Nat->E6) (z b k:Nat) (g:Nat->Int) (j:Nat->V):St:=⟨(jsV 97 0 j [(0,.sl 6 n λi=>eV (f i)),(1,.fn 52 []),(4,.ref 0),(5,nV n),(6,nV z),(8,.ref 1),(9,nV k),(37,nV n),(38,nV b)]),[.row 3 1 0 (λ_=>.und),.row 3 1 n (λi=>iV (g i))]⟩
def Ot (n:Nat) (f:Nat->E6) (z b k:Nat) (g:Nat->Int):Ex × St:=(.ex 2,⟨(jsV 97 0 (λ_=>.und) [(0,.sl 6 n λi=>eV (f i)),(1,.fn 52 []),(4,.ref 0),(5,nV n),(8,.ref 1)]),[.row 3 1 0 (λ_=>.und),.row 3 1 n (λi=>iV (g i))]⟩)
noncomputable def EE (L:LT):St->T (Ex × St):=λst=>AG tab ⟨Aq tb53,L,Gl⟩ (A1 Try.f53 2) 2 st
section
variable (L:LT) (n:Nat) (f:Nat->E6) (z b k:Nat) (g:Nat->Int)  (j:Nat->V)
include L n f z b k g j
theorem Ae7 (h0:ilt (ofNat b) (ofNat n) = true) (h1:ieq (ofNat n) 0 = false) (h2:ilt 0 (ofNat b) = false) (h13:Af (ile 0 (Ab (wr .i64 (Ae (ofNat z) (ofNat b))) (ofNat n))) (ilt (Ab (wr .i64 (Ae (ofNat z) (ofNat b))) (ofNat n)) (ofNat n)) = true) (h14:nlt (toN (Ab (wr .i64 (Ae (ofNat z) (ofNat b))) (ofNat n))) n = true):Aj (EE L) (HA n f) (IW n f z b k g j) = some (.nm,⟨(jsV 97 0 (λ_=>.und) [(0,(.sl 6 n (λi=>eV (f i)))),(1,(.fn 52 [])),(4,(.ref 0)),(5,(nV n)),(6,(nV z)),(8,(.ref 1)),(9,(nV k)),(37,(nV n)),(38,(iV (wr .i64 (Ae (ofNat b) 1))))]),[r3Z,.row 3 1 n (Bt (λi=>iV (g i)) (toN (Ab (wr .i64 (Ae (ofNat z) (ofNat b))) (ofNat n))) (nV k))]⟩):=Aa (bbK 17 98305) ((λc0=>[ilt (ofNat b) (ofNat n),ieq (ofNat n) 0,c0,c0,c0,c0,c0,c0,c0,c0,c0,c0,c0,c0,false,Af (ile 0 (Ab (wr .i64 (Ae (ofNat z) (ofNat b))) (ofNat n))) (ilt (Ab (wr .i64 (Ae (ofNat z) (ofNat b))) (ofNat n)) (ofNat n)),nlt (toN (Ab (wr .i64 (Ae (ofNat z) (ofNat b))) (ofNat n))) n]) (ilt 0 (ofNat b))) (by kernel_rfl) (by simp only [h13] <;> simp only [*] <;> rfl)
theorem AeB (h0:ilt (ofNat b) (ofNat n) = true) (h1:ieq (ofNat n) 0 = false) (h2:ilt 0 (ofNat b) = true) (h14:Af (ile 0 (Ab (wr .i64 (Au (wr .i64 (Ae (Ab (wr .i64 (Ae (ofNat z) (ofNat b))) (ofNat n)) (ofNat n))) 1)) (ofNat n))) (ilt (Ab (wr .i64 (Au (wr .i64 (Ae (Ab (wr .i64 (Ae (ofNat z) (ofNat b))) (ofNat n)) (ofNat n))) 1)) (ofNat n)) (ofNat n)) = true) (h3:As (f (toN (Ab (wr .i64 (Au (wr .i64 (Ae (Ab (wr .i64 (Ae (ofNat z) (ofNat b))) (ofNat n)) (ofNat n))) 1)) (ofNat n)))) = false) (h16:Af (ile 0 (Ab (wr .i64 (Ae (ofNat z) (ofNat b))) (ofNat n))) (ilt (Ab (wr .i64 (Ae (ofNat z) (ofNat b))) (ofNat n)) (ofNat n)) = true) (h17:nlt (toN (Ab (wr .i64 (Ae (ofNat z) (ofNat b))) (ofNat n))) n = true):Aj (EE L) (HA n f) (IW n f z b k g j) = some (.nm,⟨(jsV 97 0 (λ_=>.und) [(0,(.sl 6 n (λi=>eV (f i)))),(1,(.fn 52 [])),(4,(.ref 0)),(5,(nV n)),(6,(nV z)),(8,(.ref 1)),(9,(nV k)),(37,(nV n)),(38,(iV (wr .i64 (Ae (ofNat b) 1))))]),[r3Z,.row 3 1 n (Bt (λi=>iV (g i)) (toN (Ab (wr .i64 (Ae (ofNat z) (ofNat b))) (ofNat n))) (nV k))]⟩):=Aa (bbK 19 457725) ((λc0 c1=>[ilt (ofNat b) (ofNat n),c0,c1,c1,c1,c1,c1,c1,c1,c1,c0,c1,Af (ile 0 (Ab (wr .i64 (Au (wr .i64 (Ae (Ab (wr .i64 (Ae (ofNat z) (ofNat b))) (ofNat n)) (ofNat n))) 1)) (ofNat n))) (ilt (Ab (wr .i64 (Au (wr .i64 (Ae (Ab (wr .i64 (Ae (ofNat z) (ofNat b))) (ofNat n)) (ofNat n))) 1)) (ofNat n)) (ofNat n)),c1,c1,c1,As (f (toN (Ab (wr .i64 (Au (wr .i64 (Ae (Ab (wr .i64 (Ae (ofNat z) (ofNat b))) (ofNat n)) (ofNat n))) 1)) (ofNat n)))),Af (ile 0 (Ab (wr .i64 (Ae (ofNat z) (ofNat b))) (ofNat n))) (ilt (Ab (wr .i64 (Ae (ofNat z) (ofNat b))) (ofNat n)) (ofNat n)),nlt (toN (Ab (wr .i64 (Ae (ofNat z) (ofNat b))) (ofNat n))) n]) (ieq (ofNat n) 0) (ilt 0 (ofNat b))) (by kernel_rfl) (by simp only [h14,h16] <;> simp only [*] <;> rfl)
theorem Ae9 (h0:ilt (ofNat b) (ofNat n) = true) (h1:ieq (ofNat n) 0 = false) (h2:ilt 0 (ofNat b) = true) (h14:Af (ile 0 (Ab (wr .i64 (Au (wr .i64 (Ae (Ab (wr .i64 (Ae (ofNat z) (ofNat b))) (ofNat n)) (ofNat n))) 1)) (ofNat n))) (ilt (Ab (wr .i64 (Au (wr .i64 (Ae (Ab (wr .i64 (Ae (ofNat z) (ofNat b))) (ofNat n)) (ofNat n))) 1)) (ofNat n)) (ofNat n)) = true) (h3:As (f (toN (Ab (wr .i64 (Au (wr .i64 (Ae (Ab (wr .i64 (Ae (ofNat z) (ofNat b))) (ofNat n)) (ofNat n))) 1)) (ofNat n)))) = true) (h16:Af (ile 0 (Ab (wr .i64 (Ae (ofNat z) (ofNat b))) (ofNat n))) (ilt (Ab (wr .i64 (Ae (ofNat z) (ofNat b))) (ofNat n)) (ofNat n)) = true) (h17:nlt (toN (Ab (wr .i64 (Ae (ofNat z) (ofNat b))) (ofNat n))) n = true):Aj (EE L) (HA n f) (IW n f z b k g j) = some (.nm,⟨(jsV 97 0 (λ_=>.und) [(0,(.sl 6 n (λi=>eV (f i)))),(1,(.fn 52 [])),(4,(.ref 0)),(5,(nV n)),(6,(nV z)),(8,(.ref 1)),(9,(iV (wr .i64 (Ae (ofNat k) 1)))),(37,(nV n)),(38,(iV (wr .i64 (Ae (ofNat b) 1))))]),[r3Z,.row 3 1 n (Bt (λi=>iV (g i)) (toN (Ab (wr .i64 (Ae (ofNat z) (ofNat b))) (ofNat n))) (iV (wr .i64 (Ae (ofNat k) 1))))]⟩):=Aa (bbK 19 523261) ((λc0 c1=>[ilt (ofNat b) (ofNat n),c0,c1,c1,c1,c1,c1,c1,c1,c1,c0,c1,Af (ile 0 (Ab (wr .i64 (Au (wr .i64 (Ae (Ab (wr .i64 (Ae (ofNat z) (ofNat b))) (ofNat n)) (ofNat n))) 1)) (ofNat n))) (ilt (Ab (wr .i64 (Au (wr .i64 (Ae (Ab (wr .i64 (Ae (ofNat z) (ofNat b))) (ofNat n)) (ofNat n))) 1)) (ofNat n)) (ofNat n)),c1,c1,c1,As (f (toN (Ab (wr .i64 (Au (wr .i64 (Ae (Ab (wr .i64 (Ae (ofNat z) (ofNat b))) (ofNat n)) (ofNat n))) 1)) (ofNat n)))),Af (ile 0 (Ab (wr .i64 (Ae (ofNat z) (ofNat b))) (ofNat n))) (ilt (Ab (wr .i64 (Ae (ofNat z) (ofNat b))) (ofNat n)) (ofNat n)),nlt (toN (Ab (wr .i64 (Ae (ofNat z) (ofNat b))) (ofNat n))) n]) (ieq (ofNat n) 0) (ilt 0 (ofNat b))) (by kernel_rfl) (by simp only [h14,h16] <;> simp only [*] <;> rfl)
theorem AeD (h0:ilt (ofNat b) (ofNat n) = false):Aj (EE L) (HA n f) (IW n f z b k g j) = some ((.ex 2),⟨(jsV 97 0 (λ_=>.und) [(0,(.sl 6 n (λi=>eV (f i)))),(1,(.fn 52 [])),(4,(.ref 0)),(5,(nV n)),(8,(.ref 1))]),[r3Z,.row 3 1 n (λi=>iV (g i))]⟩):=Aa [false] [ilt (ofNat b) (ofNat n)] (by kernel_rfl) (by simp only [h0] <;> rfl)
end
def Wg (n:Nat) (f:Nat->E6) (z:Nat):St:=⟨(jsV 97 0 (λ_=>.und) [(0,(.sl 6 n (λi=>eV (f i)))),(1,(.fn 52 [])),(4,(.ref 0)),(5,(nV n)),(6,(nV z)),(8,(.ref 1)),(9,(iV 0)),(35,(nV n)),(36,(.ref 1)),(37,(nV n)),(38,(iV 0))]),[r3Z,.row 3 1 n (λ_=>iV 0)]⟩
def Jm (n:Nat) (f:Nat->E6):Lp:=⟨(bmK 97 0 [4,8,12,13,70,71]),4,bmK 97 0 [13],4,n+1⟩
def Ki (n:Nat) (f:Nat->E6) (b r:Nat) (g s o:Nat->Int) (j:Nat->V):St:=⟨(jsV 97 0 j [(4,.ref 0),(8,.ref 1),(12,.ref 2),(13,.ref 3),(70,nV n),(71,nV b)]),[.row 3 1 0 (λ_=>.und),.row 3 1 n (λi=>iV (g i)),.row 3 1 r (λi=>iV (s i)),.row 3 1 n (λi=>iV (o i))]⟩
def Oo (n:Nat) (f:Nat->E6) (b r:Nat) (g s o:Nat->Int):Ex × St:=(.ex 4,⟨(jsV 97 0 (λ_=>.und) [(13,.ref 3)]),[.row 3 1 0 (λ_=>.und),.row 3 1 n (λi=>iV (g i)),.row 3 1 r (λi=>iV (s i)),.row 3 1 n (λi=>iV (o i))]⟩)
noncomputable def FC (L:LT):St->T (Ex × St):=λst=>AG tab ⟨Aq tb53,L,Gl⟩ (A1 Try.f53 4) 4 st
section
variable (L:LT) (n:Nat) (f:Nat->E6) (b r:Nat) (g s o:Nat->Int)  (j:Nat->V)
include L n f b r g s o j
theorem Ae1 (h0:ilt (ofNat b) (ofNat n) = true) (h13:ile 0 (ofNat b) = true) (h1:nlt b n = true) (h2:CV r = true) (h3:ilt (HG r s (g b)) 0 = false):Aj (FC L) (Jm n f) (Ki n f b r g s o j) = some (.nm,⟨(jsV 97 0 (λ_=>.und) [(4,(.ref 0)),(8,(.ref 1)),(12,(.ref 2)),(13,(.ref 3)),(70,(nV n)),(71,(iV (wr .i64 (Ae (ofNat b) 1))))]),[r3Z,.row 3 1 n (λi=>iV (g i)),.row 3 1 r (λi=>iV (s i)),.row 3 1 n (Bt (λi=>iV (o i)) b (iV (HG r s (g b))))]⟩):=Aa (bbK 8 223) ((λc0 c1=>[ilt (ofNat b) (ofNat n),c0,c1,Ay r (λ_=>true),CV r,ilt (HG r s (g b)) 0,c0,c1]) (Af (ile 0 (ofNat b)) (ilt (ofNat b) (ofNat n))) (nlt b n)) (by kernel_rfl) (by simp only [*,Ax] <;> rfl)
theorem Ae3 (h0:ilt (ofNat b) (ofNat n) = true) (h13:ile 0 (ofNat b) = true) (h1:nlt b n = true) (h2:CV r = true) (h3:ilt (HG r s (g b)) 0 = true) (h14:Bh r 1 8 = true):Aj (FC L) (Jm n f) (Ki n f b r g s o j) = some (.nm,⟨(jsV 97 0 (λ_=>.und) [(4,(.ref 0)),(8,(.ref 1)),(12,(.ref 2)),(13,(.ref 3)),(70,(nV n)),(71,(iV (wr .i64 (Ae (ofNat b) 1))))]),[r3Z,.row 3 1 n (λi=>iV (g i)),.row 3 1 (Bp r 1) (AB r (λi=>iV (s i)) (iV (g b))),.row 3 1 n (Bt (λi=>iV (o i)) b (nV r))]⟩):=Aa (bbK 11 2047) ((λc0 c1=>[ilt (ofNat b) (ofNat n),c0,c1,Ay r (λ_=>true),CV r,ilt (HG r s (g b)) 0,c0,c1,Bh r 1 8,c0,c1]) (Af (ile 0 (ofNat b)) (ilt (ofNat b) (ofNat n))) (nlt b n)) (by kernel_rfl) (by simp only [*,Ax] <;> rfl)
theorem Ae5 (h0:ilt (ofNat b) (ofNat n) = false):Aj (FC L) (Jm n f) (Ki n f b r g s o j) = some ((.ex 4),⟨(jsV 97 0 (λ_=>.und) [(13,(.ref 3))]),[r3Z,.row 3 1 n (λi=>iV (g i)),.row 3 1 r (λi=>iV (s i)),.row 3 1 n (λi=>iV (o i))]⟩):=Aa [false] [ilt (ofNat b) (ofNat n)] (by kernel_rfl) (by simp only [h0] <;> rfl)
end
def VY (n:Nat) (f:Nat->E6) (z:Nat) (g:Nat->Int):St:=⟨(jsV 97 0 (λ_=>.und) [(0,(.sl 6 n (λi=>eV (f i)))),(1,(.fn 52 [])),(4,(.ref 0)),(5,(nV n)),(8,(.ref 1)),(12,(.ref 2)),(13,(.ref 3)),(68,(nV n)),(69,(.ref 3)),(70,(nV n)),(71,(iV 0))]),[r3Z,.row 3 1 n (λi=>iV (g i)),r3Z,.row 3 1 n (λ_=>iV 0)]⟩
noncomputable abbrev Ls (L:LT) (p0:PT) (p2:PT) (p4:PT) (n:Nat) (f:Nat->E6) (z:Nat) (g:Nat->Int) (r:Nat) (gg:Nat->Int) (ss:Nat->Int) (o:Nat->Int):LT:=onP 0 p0 (UD n f z) (onP 2 p2 (Ot n f z 0 0 g) (onP 4 p4 (Oo n f 0 r gg ss o) L))
theorem AgH (L:LT) (p0:PT) (p2:PT) (p4:PT) (n:Nat) (f:Nat->E6) (z:Nat) (g:Nat->Int) (r:Nat) (gg ss o:Nat->Int) (h0:BK 8 (ofNat n) (ofNat n) = true) (hp0:p0 (J3 (Ls L p0 p2 p4 n f z g r gg ss o)) (Pi n f 0 (AcR n f )) = true) (hp2:p2 (EE (Ls L p0 p2 p4 n f z g r gg ss o)) (Wg n f z) = true) (hp4:p4 (FC (Ls L p0 p2 p4 n f z g r gg ss o)) (VY n f z g) = true):(A2 (An tab ⟨Aq tb53,onP 0 p0 (UD n f z) (onP 2 p2 (Ot n f z 0 0 g) (onP 4 p4 (Oo n f 0 r gg ss o) L)),Gl⟩ Try.f53 [.sl 6 n λi=>eV (f i),.fn 52 []] [])).sem = some ((.ref 0),[.row 3 1 n (λi=>iV (o i))]):=Aa [true,true,true,true,true] [p0 (J3 (Ls L p0 p2 p4 n f z g r gg ss o)) (Pi n f 0 (AcR n f )),BK 8 (ofNat n) (ofNat n),p2 (EE (Ls L p0 p2 p4 n f z g r gg ss o)) (Wg n f z),BK 8 (ofNat n) (ofNat n),p4 (FC (Ls L p0 p2 p4 n f z g r gg ss o)) (VY n f z g)] (by kernel_rfl) (by simp only [hp0,hp2,hp4] <;> simp only [h0] <;> rfl)
def P7 (n:Nat) (f:Nat->E6):Lp:=⟨(bmK 97 0 [0,1,4,5,6,18,19]),1,bmK 97 0 [0,1,4,5,6],1,n+1⟩
def Ph (n:Nat) (f:Nat->E6) (b:Nat) (j:Nat->V):St:=⟨(jsV 97 0 j [(0,.sl 6 n λi=>eV (f i)),(1,.fn 54 []),(4,.ref 0),(5,nV n),(6,iV 0),(18,nV n),(19,nV b)]),[.row 3 1 0 (λ_=>.und)]⟩
def UC (n:Nat) (f:Nat->E6) (b:Nat):Ex × St:=(.ex 0,⟨(jsV 97 0 (λ_=>.und) [(0,.sl 6 n λi=>eV (f i)),(1,.fn 54 []),(4,.ref 0),(5,nV n),(6,nV b)]),[.row 3 1 0 (λ_=>.und)]⟩)
noncomputable def J2 (L:LT):St->T (Ex × St):=λst=>AG tab ⟨Aq tb53,L,Gl⟩ (A1 Try.f53 0) 0 st
section
variable (L:LT) (n:Nat) (f:Nat->E6) (b:Nat)  (j:Nat->V)
include L n f b j
theorem AeG (h0:ilt (ofNat b) (ofNat n) = true) (h1:ieq (ofNat n) 0 = false) (h13:Af (ile 0 (Ab (wr .i64 (Au (wr .i64 (Ae (ofNat b) (ofNat n))) 1)) (ofNat n))) (ilt (Ab (wr .i64 (Au (wr .i64 (Ae (ofNat b) (ofNat n))) 1)) (ofNat n)) (ofNat n)) = true) (h2:Ar (f (toN (Ab (wr .i64 (Au (wr .i64 (Ae (ofNat b) (ofNat n))) 1)) (ofNat n)))) = false):Aj (J2 L) (P7 n f) (Ph n f b j) = some (.nm,⟨(jsV 97 0 (λ_=>.und) [(0,(.sl 6 n (λi=>eV (f i)))),(1,(.fn 54 [])),(4,(.ref 0)),(5,(nV n)),(6,(iV 0)),(18,(nV n)),(19,(iV (wr .i64 (Ae (ofNat b) 1))))]),[r3Z]⟩):=Aa [true,false,true,false] [ilt (ofNat b) (ofNat n),ieq (ofNat n) 0,Af (ile 0 (Ab (wr .i64 (Au (wr .i64 (Ae (ofNat b) (ofNat n))) 1)) (ofNat n))) (ilt (Ab (wr .i64 (Au (wr .i64 (Ae (ofNat b) (ofNat n))) 1)) (ofNat n)) (ofNat n)),Ar (f (toN (Ab (wr .i64 (Au (wr .i64 (Ae (ofNat b) (ofNat n))) 1)) (ofNat n))))] (by kernel_rfl) (by simp only [h13] <;> simp only [*] <;> rfl)
theorem AeE (h0:ilt (ofNat b) (ofNat n) = true) (h1:ieq (ofNat n) 0 = false) (h13:Af (ile 0 (Ab (wr .i64 (Au (wr .i64 (Ae (ofNat b) (ofNat n))) 1)) (ofNat n))) (ilt (Ab (wr .i64 (Au (wr .i64 (Ae (ofNat b) (ofNat n))) 1)) (ofNat n)) (ofNat n)) = true) (h2:Ar (f (toN (Ab (wr .i64 (Au (wr .i64 (Ae (ofNat b) (ofNat n))) 1)) (ofNat n)))) = true):Aj (J2 L) (P7 n f) (Ph n f b j) = some ((.ex 0),⟨(jsV 97 0 (λ_=>.und) [(0,(.sl 6 n (λi=>eV (f i)))),(1,(.fn 54 [])),(4,(.ref 0)),(5,(nV n)),(6,(nV b))]),[r3Z]⟩):=Aa [true,false,true,true] [ilt (ofNat b) (ofNat n),ieq (ofNat n) 0,Af (ile 0 (Ab (wr .i64 (Au (wr .i64 (Ae (ofNat b) (ofNat n))) 1)) (ofNat n))) (ilt (Ab (wr .i64 (Au (wr .i64 (Ae (ofNat b) (ofNat n))) 1)) (ofNat n)) (ofNat n)),Ar (f (toN (Ab (wr .i64 (Au (wr .i64 (Ae (ofNat b) (ofNat n))) 1)) (ofNat n))))] (by kernel_rfl) (by simp only [h13] <;> simp only [*] <;> rfl)
theorem AeI (h0:ilt (ofNat b) (ofNat n) = false):Aj (J2 L) (P7 n f) (Ph n f b j) = some ((.ex 0),⟨(jsV 97 0 (λ_=>.und) [(0,(.sl 6 n (λi=>eV (f i)))),(1,(.fn 54 [])),(4,(.ref 0)),(5,(nV n)),(6,(iV 0))]),[r3Z]⟩):=Aa [false] [ilt (ofNat b) (ofNat n)] (by kernel_rfl) (by simp only [h0] <;> rfl)
end
def AcQ (n:Nat) (f:Nat->E6) :Nat->V:=lkV A9 [(16,(.sl 6 n (λi=>eV (f i)))),(17,(nV n))]
def H9 (n:Nat) (f:Nat->E6):Lp:=⟨(bmK 97 0 [0,1,4,5,6,8,9,37,38]),2,bmK 97 0 [0,1,4,5,8],2,n+1⟩
def IV (n:Nat) (f:Nat->E6) (z b k:Nat) (g:Nat->Int) (j:Nat->V):St:=⟨(jsV 97 0 j [(0,.sl 6 n λi=>eV (f i)),(1,.fn 54 []),(4,.ref 0),(5,nV n),(6,nV z),(8,.ref 1),(9,nV k),(37,nV n),(38,nV b)]),[.row 3 1 0 (λ_=>.und),.row 3 1 n (λi=>iV (g i))]⟩
def Oq (n:Nat) (f:Nat->E6) (z b k:Nat) (g:Nat->Int):Ex × St:=(.ex 2,⟨(jsV 97 0 (λ_=>.und) [(0,.sl 6 n λi=>eV (f i)),(1,.fn 54 []),(4,.ref 0),(5,nV n),(8,.ref 1)]),[.row 3 1 0 (λ_=>.und),.row 3 1 n (λi=>iV (g i))]⟩)
noncomputable def ED (L:LT):St->T (Ex × St):=λst=>AG tab ⟨Aq tb53,L,Gl⟩ (A1 Try.f53 2) 2 st
section
variable (L:LT) (n:Nat) (f:Nat->E6) (z b k:Nat) (g:Nat->Int)  (j:Nat->V)
include L n f z b k g j
theorem Ae6 (h0:ilt (ofNat b) (ofNat n) = true) (h1:ieq (ofNat n) 0 = false) (h2:ilt 0 (ofNat b) = false) (h13:Af (ile 0 (Ab (wr .i64 (Ae (ofNat z) (ofNat b))) (ofNat n))) (ilt (Ab (wr .i64 (Ae (ofNat z) (ofNat b))) (ofNat n)) (ofNat n)) = true) (h14:nlt (toN (Ab (wr .i64 (Ae (ofNat z) (ofNat b))) (ofNat n))) n = true):Aj (ED L) (H9 n f) (IV n f z b k g j) = some (.nm,⟨(jsV 97 0 (λ_=>.und) [(0,(.sl 6 n (λi=>eV (f i)))),(1,(.fn 54 [])),(4,(.ref 0)),(5,(nV n)),(6,(nV z)),(8,(.ref 1)),(9,(nV k)),(37,(nV n)),(38,(iV (wr .i64 (Ae (ofNat b) 1))))]),[r3Z,.row 3 1 n (Bt (λi=>iV (g i)) (toN (Ab (wr .i64 (Ae (ofNat z) (ofNat b))) (ofNat n))) (nV k))]⟩):=Aa (bbK 17 98305) ((λc0=>[ilt (ofNat b) (ofNat n),ieq (ofNat n) 0,c0,c0,c0,c0,c0,c0,c0,c0,c0,c0,c0,c0,false,Af (ile 0 (Ab (wr .i64 (Ae (ofNat z) (ofNat b))) (ofNat n))) (ilt (Ab (wr .i64 (Ae (ofNat z) (ofNat b))) (ofNat n)) (ofNat n)),nlt (toN (Ab (wr .i64 (Ae (ofNat z) (ofNat b))) (ofNat n))) n]) (ilt 0 (ofNat b))) (by kernel_rfl) (by simp only [h13] <;> simp only [*] <;> rfl)
theorem AeA (h0:ilt (ofNat b) (ofNat n) = true) (h1:ieq (ofNat n) 0 = false) (h2:ilt 0 (ofNat b) = true) (h14:Af (ile 0 (Ab (wr .i64 (Au (wr .i64 (Ae (Ab (wr .i64 (Ae (ofNat z) (ofNat b))) (ofNat n)) (ofNat n))) 1)) (ofNat n))) (ilt (Ab (wr .i64 (Au (wr .i64 (Ae (Ab (wr .i64 (Ae (ofNat z) (ofNat b))) (ofNat n)) (ofNat n))) 1)) (ofNat n)) (ofNat n)) = true) (h3:Ar (f (toN (Ab (wr .i64 (Au (wr .i64 (Ae (Ab (wr .i64 (Ae (ofNat z) (ofNat b))) (ofNat n)) (ofNat n))) 1)) (ofNat n)))) = false) (h16:Af (ile 0 (Ab (wr .i64 (Ae (ofNat z) (ofNat b))) (ofNat n))) (ilt (Ab (wr .i64 (Ae (ofNat z) (ofNat b))) (ofNat n)) (ofNat n)) = true) (h17:nlt (toN (Ab (wr .i64 (Ae (ofNat z) (ofNat b))) (ofNat n))) n = true):Aj (ED L) (H9 n f) (IV n f z b k g j) = some (.nm,⟨(jsV 97 0 (λ_=>.und) [(0,(.sl 6 n (λi=>eV (f i)))),(1,(.fn 54 [])),(4,(.ref 0)),(5,(nV n)),(6,(nV z)),(8,(.ref 1)),(9,(nV k)),(37,(nV n)),(38,(iV (wr .i64 (Ae (ofNat b) 1))))]),[r3Z,.row 3 1 n (Bt (λi=>iV (g i)) (toN (Ab (wr .i64 (Ae (ofNat z) (ofNat b))) (ofNat n))) (nV k))]⟩):=Aa (bbK 19 457725) ((λc0 c1=>[ilt (ofNat b) (ofNat n),c0,c1,c1,c1,c1,c1,c1,c1,c1,c0,c1,Af (ile 0 (Ab (wr .i64 (Au (wr .i64 (Ae (Ab (wr .i64 (Ae (ofNat z) (ofNat b))) (ofNat n)) (ofNat n))) 1)) (ofNat n))) (ilt (Ab (wr .i64 (Au (wr .i64 (Ae (Ab (wr .i64 (Ae (ofNat z) (ofNat b))) (ofNat n)) (ofNat n))) 1)) (ofNat n)) (ofNat n)),c1,c1,c1,Ar (f (toN (Ab (wr .i64 (Au (wr .i64 (Ae (Ab (wr .i64 (Ae (ofNat z) (ofNat b))) (ofNat n)) (ofNat n))) 1)) (ofNat n)))),Af (ile 0 (Ab (wr .i64 (Ae (ofNat z) (ofNat b))) (ofNat n))) (ilt (Ab (wr .i64 (Ae (ofNat z) (ofNat b))) (ofNat n)) (ofNat n)),nlt (toN (Ab (wr .i64 (Ae (ofNat z) (ofNat b))) (ofNat n))) n]) (ieq (ofNat n) 0) (ilt 0 (ofNat b))) (by kernel_rfl) (by simp only [h14,h16] <;> simp only [*] <;> rfl)
theorem Ae8 (h0:ilt (ofNat b) (ofNat n) = true) (h1:ieq (ofNat n) 0 = false) (h2:ilt 0 (ofNat b) = true) (h14:Af (ile 0 (Ab (wr .i64 (Au (wr .i64 (Ae (Ab (wr .i64 (Ae (ofNat z) (ofNat b))) (ofNat n)) (ofNat n))) 1)) (ofNat n))) (ilt (Ab (wr .i64 (Au (wr .i64 (Ae (Ab (wr .i64 (Ae (ofNat z) (ofNat b))) (ofNat n)) (ofNat n))) 1)) (ofNat n)) (ofNat n)) = true) (h3:Ar (f (toN (Ab (wr .i64 (Au (wr .i64 (Ae (Ab (wr .i64 (Ae (ofNat z) (ofNat b))) (ofNat n)) (ofNat n))) 1)) (ofNat n)))) = true) (h16:Af (ile 0 (Ab (wr .i64 (Ae (ofNat z) (ofNat b))) (ofNat n))) (ilt (Ab (wr .i64 (Ae (ofNat z) (ofNat b))) (ofNat n)) (ofNat n)) = true) (h17:nlt (toN (Ab (wr .i64 (Ae (ofNat z) (ofNat b))) (ofNat n))) n = true):Aj (ED L) (H9 n f) (IV n f z b k g j) = some (.nm,⟨(jsV 97 0 (λ_=>.und) [(0,(.sl 6 n (λi=>eV (f i)))),(1,(.fn 54 [])),(4,(.ref 0)),(5,(nV n)),(6,(nV z)),(8,(.ref 1)),(9,(iV (wr .i64 (Ae (ofNat k) 1)))),(37,(nV n)),(38,(iV (wr .i64 (Ae (ofNat b) 1))))]),[r3Z,.row 3 1 n (Bt (λi=>iV (g i)) (toN (Ab (wr .i64 (Ae (ofNat z) (ofNat b))) (ofNat n))) (iV (wr .i64 (Ae (ofNat k) 1))))]⟩):=Aa (bbK 19 523261) ((λc0 c1=>[ilt (ofNat b) (ofNat n),c0,c1,c1,c1,c1,c1,c1,c1,c1,c0,c1,Af (ile 0 (Ab (wr .i64 (Au (wr .i64 (Ae (Ab (wr .i64 (Ae (ofNat z) (ofNat b))) (ofNat n)) (ofNat n))) 1)) (ofNat n))) (ilt (Ab (wr .i64 (Au (wr .i64 (Ae (Ab (wr .i64 (Ae (ofNat z) (ofNat b))) (ofNat n)) (ofNat n))) 1)) (ofNat n)) (ofNat n)),c1,c1,c1,Ar (f (toN (Ab (wr .i64 (Au (wr .i64 (Ae (Ab (wr .i64 (Ae (ofNat z) (ofNat b))) (ofNat n)) (ofNat n))) 1)) (ofNat n)))),Af (ile 0 (Ab (wr .i64 (Ae (ofNat z) (ofNat b))) (ofNat n))) (ilt (Ab (wr .i64 (Ae (ofNat z) (ofNat b))) (ofNat n)) (ofNat n)),nlt (toN (Ab (wr .i64 (Ae (ofNat z) (ofNat b))) (ofNat n))) n]) (ieq (ofNat n) 0) (ilt 0 (ofNat b))) (by kernel_rfl) (by simp only [h14,h16] <;> simp only [*] <;> rfl)
theorem AeC (h0:ilt (ofNat b) (ofNat n) = false):Aj (ED L) (H9 n f) (IV n f z b k g j) = some ((.ex 2),⟨(jsV 97 0 (λ_=>.und) [(0,(.sl 6 n (λi=>eV (f i)))),(1,(.fn 54 [])),(4,(.ref 0)),(5,(nV n)),(8,(.ref 1))]),[r3Z,.row 3 1 n (λi=>iV (g i))]⟩):=Aa [false] [ilt (ofNat b) (ofNat n)] (by kernel_rfl) (by simp only [h0] <;> rfl)
end
def Wf (n:Nat) (f:Nat->E6) (z:Nat):St:=⟨(jsV 97 0 (λ_=>.und) [(0,(.sl 6 n (λi=>eV (f i)))),(1,(.fn 54 [])),(4,(.ref 0)),(5,(nV n)),(6,(nV z)),(8,(.ref 1)),(9,(iV 0)),(35,(nV n)),(36,(.ref 1)),(37,(nV n)),(38,(iV 0))]),[r3Z,.row 3 1 n (λ_=>iV 0)]⟩
def Jl (n:Nat) (f:Nat->E6):Lp:=⟨(bmK 97 0 [4,8,12,13,70,71]),4,bmK 97 0 [13],4,n+1⟩
def Kh (n:Nat) (f:Nat->E6) (b r:Nat) (g s o:Nat->Int) (j:Nat->V):St:=⟨(jsV 97 0 j [(4,.ref 0),(8,.ref 1),(12,.ref 2),(13,.ref 3),(70,nV n),(71,nV b)]),[.row 3 1 0 (λ_=>.und),.row 3 1 n (λi=>iV (g i)),.row 3 1 r (λi=>iV (s i)),.row 3 1 n (λi=>iV (o i))]⟩
def On (n:Nat) (f:Nat->E6) (b r:Nat) (g s o:Nat->Int):Ex × St:=(.ex 4,⟨(jsV 97 0 (λ_=>.und) [(13,.ref 3)]),[.row 3 1 0 (λ_=>.und),.row 3 1 n (λi=>iV (g i)),.row 3 1 r (λi=>iV (s i)),.row 3 1 n (λi=>iV (o i))]⟩)
noncomputable def FB (L:LT):St->T (Ex × St):=λst=>AG tab ⟨Aq tb53,L,Gl⟩ (A1 Try.f53 4) 4 st
section
variable (L:LT) (n:Nat) (f:Nat->E6) (b r:Nat) (g s o:Nat->Int)  (j:Nat->V)
include L n f b r g s o j
theorem Ae0 (h0:ilt (ofNat b) (ofNat n) = true) (h13:ile 0 (ofNat b) = true) (h1:nlt b n = true) (h2:CV r = true) (h3:ilt (HG r s (g b)) 0 = false):Aj (FB L) (Jl n f) (Kh n f b r g s o j) = some (.nm,⟨(jsV 97 0 (λ_=>.und) [(4,(.ref 0)),(8,(.ref 1)),(12,(.ref 2)),(13,(.ref 3)),(70,(nV n)),(71,(iV (wr .i64 (Ae (ofNat b) 1))))]),[r3Z,.row 3 1 n (λi=>iV (g i)),.row 3 1 r (λi=>iV (s i)),.row 3 1 n (Bt (λi=>iV (o i)) b (iV (HG r s (g b))))]⟩):=Aa (bbK 8 223) ((λc0 c1=>[ilt (ofNat b) (ofNat n),c0,c1,Ay r (λ_=>true),CV r,ilt (HG r s (g b)) 0,c0,c1]) (Af (ile 0 (ofNat b)) (ilt (ofNat b) (ofNat n))) (nlt b n)) (by kernel_rfl) (by simp only [*,Ax] <;> rfl)
theorem Ae2 (h0:ilt (ofNat b) (ofNat n) = true) (h13:ile 0 (ofNat b) = true) (h1:nlt b n = true) (h2:CV r = true) (h3:ilt (HG r s (g b)) 0 = true) (h14:Bh r 1 8 = true):Aj (FB L) (Jl n f) (Kh n f b r g s o j) = some (.nm,⟨(jsV 97 0 (λ_=>.und) [(4,(.ref 0)),(8,(.ref 1)),(12,(.ref 2)),(13,(.ref 3)),(70,(nV n)),(71,(iV (wr .i64 (Ae (ofNat b) 1))))]),[r3Z,.row 3 1 n (λi=>iV (g i)),.row 3 1 (Bp r 1) (AB r (λi=>iV (s i)) (iV (g b))),.row 3 1 n (Bt (λi=>iV (o i)) b (nV r))]⟩):=Aa (bbK 11 2047) ((λc0 c1=>[ilt (ofNat b) (ofNat n),c0,c1,Ay r (λ_=>true),CV r,ilt (HG r s (g b)) 0,c0,c1,Bh r 1 8,c0,c1]) (Af (ile 0 (ofNat b)) (ilt (ofNat b) (ofNat n))) (nlt b n)) (by kernel_rfl) (by simp only [*,Ax] <;> rfl)
theorem Ae4 (h0:ilt (ofNat b) (ofNat n) = false):Aj (FB L) (Jl n f) (Kh n f b r g s o j) = some ((.ex 4),⟨(jsV 97 0 (λ_=>.und) [(13,(.ref 3))]),[r3Z,.row 3 1 n (λi=>iV (g i)),.row 3 1 r (λi=>iV (s i)),.row 3 1 n (λi=>iV (o i))]⟩):=Aa [false] [ilt (ofNat b) (ofNat n)] (by kernel_rfl) (by simp only [h0] <;> rfl)
end
def VX (n:Nat) (f:Nat->E6) (z:Nat) (g:Nat->Int):St:=⟨(jsV 97 0 (λ_=>.und) [(0,(.sl 6 n (λi=>eV (f i)))),(1,(.fn 54 [])),(4,(.ref 0)),(5,(nV n)),(8,(.ref 1)),(12,(.ref 2)),(13,(.ref 3)),(68,(nV n)),(69,(.ref 3)),(70,(nV n)),(71,(iV 0))]),[r3Z,.row 3 1 n (λi=>iV (g i)),r3Z,.row 3 1 n (λ_=>iV 0)]⟩
noncomputable abbrev Lr (L:LT) (p0:PT) (p2:PT) (p4:PT) (n:Nat) (f:Nat->E6) (z:Nat) (g:Nat->Int) (r:Nat) (gg:Nat->Int) (ss:Nat->Int) (o:Nat->Int):LT:=onP 0 p0 (UC n f z) (onP 2 p2 (Oq n f z 0 0 g) (onP 4 p4 (On n f 0 r gg ss o) L))
theorem AgG (L:LT) (p0:PT) (p2:PT) (p4:PT) (n:Nat) (f:Nat->E6) (z:Nat) (g:Nat->Int) (r:Nat) (gg ss o:Nat->Int) (h0:BK 8 (ofNat n) (ofNat n) = true) (hp0:p0 (J2 (Lr L p0 p2 p4 n f z g r gg ss o)) (Ph n f 0 (AcQ n f )) = true) (hp2:p2 (ED (Lr L p0 p2 p4 n f z g r gg ss o)) (Wf n f z) = true) (hp4:p4 (FB (Lr L p0 p2 p4 n f z g r gg ss o)) (VX n f z g) = true):(A2 (An tab ⟨Aq tb53,onP 0 p0 (UC n f z) (onP 2 p2 (Oq n f z 0 0 g) (onP 4 p4 (On n f 0 r gg ss o) L)),Gl⟩ Try.f53 [.sl 6 n λi=>eV (f i),.fn 54 []] [])).sem = some ((.ref 0),[.row 3 1 n (λi=>iV (o i))]):=Aa [true,true,true,true,true] [p0 (J2 (Lr L p0 p2 p4 n f z g r gg ss o)) (Ph n f 0 (AcQ n f )),BK 8 (ofNat n) (ofNat n),p2 (ED (Lr L p0 p2 p4 n f z g r gg ss o)) (Wf n f z),BK 8 (ofNat n) (ofNat n),p4 (FB (Lr L p0 p2 p4 n f z g r gg ss o)) (VX n f z g)] (by kernel_rfl) (by simp only [hp0,hp2,hp4] <;> simp only [h0] <;> rfl)
theorem Yx (L:LT) (n:Nat) (f:Nat->E6) (hn:n <= 4611686018427387903):∀ (e i:Nat) (j:Nat->V) (q:Nat),n = i+e->e < q->(∀ k,k < i->(λk=>As (f k)) ((k+(n - 1)) % n) = false) ->
  (A8 (J3 L) (P8 n f) q (Pi n f i j)).sem = some (UD n f (Ck (λk=>As (f k)) n))
 | 0,i,j,q+1,h,_,hb=>by
  have:n = i:=by omega
  subst this
  rw [OC hb]
  exact Ad (AeJ L n f n j (AF (Nat.le_refl _)))
 | e+1,i,j,q+1,h,h2,hb=>by
  have hl:i < n:=by omega
  have hx:=J4 (a:=i) (n:=n) (by omega) (by omega)
  have hin:Af (ile 0 (Ab (wr .i64 (Au (wr .i64 (Ae (ofNat i) (ofNat n))) 1)) (ofNat n))) (ilt (Ab (wr .i64 (Au (wr .i64 (Ae (ofNat i) (ofNat n))) 1)) (ofNat n)) (ofNat n)) = true:=by
   rw [hx]
   exact Ap (Nat.mod_lt _ (by omega))
  cases hp:As (f ((i+(n - 1)) % n)) with
  | true =>
   rw [Tw (p:=λk=>As (f k)) hl hp hb]
   exact Ad (AeF L n f i j (ofNat_lt hl) (FP (by omega)) hin (by rw [hx]; exact hp))
  | false =>
   rw [Ad (AeH L n f i j (ofNat_lt hl) (FP (by omega)) hin (by rw [hx]; exact hp)),Aw,Ao hl (by omega)]
   refine Yx L n f hn e (i+1) (λ_=>.und) q (by omega) (by omega) λk hk=>?_
   by_cases hki:k = i
   ·rw [hki]; exact hp
   ·exact hb k (by omega)
theorem Vk (L:LT) (n:Nat) (f:Nat->E6) (hn:n <= 4611686018427387903) (z:Nat) (hz:z < n):∀ (e b:Nat) (j:Nat->V) (q:Nat),n = b+e->e < q ->
  (A8 (EE L) (HA n f) q (IW n f z b (Ak (Ec (λk=>As (f k)) n z) (b - 1)) (gN (λk=>As (f k)) n z b) j)).sem = some (Ot n f z 0 0 (gN (λk=>As (f k)) n z n))
 | 0,b,j,q+1,h,_=>by
  have:n = b:=by omega
  subst this
  exact Ad (AeD L n f z n _ _ j (AF (Nat.le_refl _)))
 | e+1,b,j,q+1,h,h2=>by
  have hl:b < n:=by omega
  have hI:Ab (wr .i64 (Ae (ofNat z) (ofNat b))) (ofNat n) = ofNat ((z+b) % n):=by rw [DI (by omega),C9]
  have hlt:(z+b) % n < n:=Nat.mod_lt _ (by omega)
  have hin:Af (ile 0 (Ab (wr .i64 (Ae (ofNat z) (ofNat b))) (ofNat n))) (ilt (Ab (wr .i64 (Ae (ofNat z) (ofNat b))) (ofNat n)) (ofNat n)) = true:=by
   rw [hI]
   exact Ap hlt
  have hnl:nlt (toN (Ab (wr .i64 (Ae (ofNat z) (ofNat b))) (ofNat n))) n = true:=by
   rw [hI]
   exact decide_eq_true hlt
  have next:=Vk L n f hn z hz e (b+1) (λ_=>.und) q (by omega) (by omega)
  rw [show b+1 - 1 = b by omega] at next
  cases b with
  | zero =>
   rw [Ad (Ae7 L n f z 0 _ _ j (ofNat_lt hl) (FP (by omega)) rfl hin hnl),Aw,hI,Ao hl (by omega),show toN (ofNat ((z+0) % n)) = (z+0) % n from rfl,Cn]
   have hs:=MK (p:=λk=>As (f k)) hz hl
   rw [<- hs] at next
   exact next
  | succ b =>
   have hx:Ab (wr .i64 (Au (wr .i64 (Ae (Ab (wr .i64 (Ae (ofNat z) (ofNat (b+1)))) (ofNat n)) (ofNat n))) 1)) (ofNat n) = ofNat ((z+b) % n):=by
    rw [hI,J4 (by omega) (by omega),PS hz (by omega)]
   have hxin:Af (ile 0 (Ab (wr .i64 (Au (wr .i64 (Ae (Ab (wr .i64 (Ae (ofNat z) (ofNat (b+1)))) (ofNat n)) (ofNat n))) 1)) (ofNat n))) (ilt (Ab (wr .i64 (Au (wr .i64 (Ae (Ab (wr .i64 (Ae (ofNat z) (ofNat (b+1)))) (ofNat n)) (ofNat n))) 1)) (ofNat n)) (ofNat n)) = true:=by
    rw [hx]
    exact Ap (Nat.mod_lt _ (by omega))
   have hs:=MK (p:=λk=>As (f k)) hz hl
   have hc:=Bd (Ec (λk=>As (f k)) n z) b
   have h0:ilt 0 (ofNat (b+1)) = true:=by rw [show (0:Int) = ofNat 0 from rfl,CN]; simp
   rw [show b+1 - 1 = b by omega]
   cases hp:As (f ((z+b) % n)) with
   | true =>
    rw [Ad (Ae9 L n f z (b+1) _ _ j (ofNat_lt hl) (FP (by omega)) h0 hxin (by rw [hx]; exact hp) hin hnl),Aw,hI,Ao hl (by omega),show toN (ofNat ((z+(b+1)) % n)) = (z+(b+1)) % n from rfl,Ao (show Ak (Ec (λk=>As (f k)) n z) b < n by omega) (by omega),Cn,<- Bk (p:=Ec (λk=>As (f k)) n z) (i:=b) hp,hs]
    exact next
   | false =>
    rw [Ad (AeB L n f z (b+1) _ _ j (ofNat_lt hl) (FP (by omega)) h0 hxin (by rw [hx]; exact hp) hin hnl),Aw,hI,Ao hl (by omega),show toN (ofNat ((z+(b+1)) % n)) = (z+(b+1)) % n from rfl,Cn,<- B0 (p:=Ec (λk=>As (f k)) n z) (i:=b) hp,hs]
    exact next
theorem Vi (L:LT) (n:Nat) (f:Nat->E6) (p:Nat->Bool) (hn:n * 8 <= 140737488355328) (z:Nat) (g:Nat->Int) (hg:∀ i,i < n->g i = ofNat (snN p n z (Ba p n i))):∀ (e b:Nat) (j:Nat->V) (q:Nat),n = b+e->e < q ->
  (A8 (FC L) (Jm n f) q (Ki n f b (rN p n b) g (EO p n z b) (Up p n b) j)).sem = some (Oo n f 0 (rN p n n) g (EO p n z n) (Av p n))
 | 0,b,j,q+1,h,_=>by
  have:n = b:=by omega
  subst this
  rw [<- YL p n]
  exact Ad (Ae5 L n f n _ _ _ _ j (AF (Nat.le_refl _)))
 | e+1,b,j,q+1,h,h2=>by
  have hl:b < n:=by omega
  have hr:=Sc p n b
  have h8:CV (rN p n b) = true:=by
   unfold CV
   simp
   omega
  have hnl:nlt b n = true:=by simpa [nlt] using hl
  have next:=Vi L n f p hn z g hg e (b+1) (λ_=>.und) q (by omega) (by omega)
  rcases Nat.lt_or_ge (Ba p n b) (rN p n b) with hc | hc
  ·have hi:=RT (z:=z) hl hc
   rw [<- hg b hl] at hi
   obtain ⟨e1,e2⟩:=Nr (z:=z) hc
   rw [Ad (Ae1 L n f b _ g _ _ j (ofNat_lt hl) (AK b) hnl h8 (by rw [hi]; simp [ilt])),Aw,Ao hl (by omega),hi,Cn,Jj hl]
   rw [e1,e2] at next
   exact next
  ·have hc:Ba p n b = rN p n b:=Nat.le_antisymm (Ku p n b hl) hc
   have hi:=RU (z:=z) hl hc
   rw [<- hg b hl] at hi
   obtain ⟨e1,e2⟩:=Pm (z:=z) hc
   rw [<- hg b hl] at e1
   rw [Ad (Ae3 L n f b _ g _ _ j (ofNat_lt hl) (AK b) hnl h8 (by rw [hi]; rfl) (Cc (by omega))),Aw,Ao hl (by omega),e1,Cn,<- hc,Jj hl]
   rw [e2,<- hc] at next
   exact next
def UT:List (Nat × List (Nat × V)):=[(4,[(2,iV 0)])]
def QA (n:Nat) (f:Nat->E6):List (Nat × Lp):=[(0,P8 n f),(2,HA n f),(4,Jm n f)]
theorem Acg (n:Nat) (f:Nat->E6) (z:Nat) (g:Nat->Int):CW (VY n f z g) [(2,iV 0)] = Ki n f 0 0 g (λ_=>0) (λ_=>0) (λi=>nth (VY n f z g).t i):=by kernel_rfl
theorem Agy (n:Nat) (f:Nat->E6) (z:Nat):Wg n f z = IW n f z 0 0 (λ_=>0) (λi=>nth (Wg n f z).t i):=by kernel_rfl
theorem Aa5 (n:Nat) (f:Nat->E6) (hp:0 < n) (h8:n * 8 <= 140737488355328) (hm:BK 8 (ofNat n) (ofNat n) = true) :
  (A2 (An tab (cxZ Gl tb53 UT (QA n f)) Try.f53 [A3 n f,.fn 52 []] [])).sem = some (.ref 0,[.row 3 1 n λk=>iV (Av (λk=>As (f k)) n k)]):=by
 have hL:=DW UT (QA n f)
 have hz:=Tv (λk=>As (f k)) hp
 have hb:=OB (λk=>As (f k)) hp
 refine A6 (Az (Az (Az hL hL) hL) hL) _ (AgH _ _ _ _ n f (Ck (λk=>As (f k)) n) (gN (λk=>As (f k)) n (Ck (λk=>As (f k)) n) n) (rN (λk=>As (f k)) n n) (gN (λk=>As (f k)) n (Ck (λk=>As (f k)) n) n) (EO (λk=>As (f k)) n (Ck (λk=>As (f k)) n) n) (Av (λk=>As (f k)) n) hm
  (Am ?_) (Am ?_) (Am ?_))
 ·show (A8 _ (P8 n f) (n+1) _).sem = _
  exact Yx _ n f (by omega) n 0 _ (n+1) (by omega) (by omega) (λk hk=>absurd hk (Nat.not_lt_zero _))
 ·show (A8 _ (HA n f) (n+1) _).sem = _
  rw [Agy]
  have h:=λL j=>Vk L n f (by omega) _ hz n 0 j (n+1) (by omega) (by omega)
  simp only [Ajh] at h
  exact h _ _
 ·show (A8 _ (Jm n f) (n+1) (CW _ [(2,iV 0)])).sem = _
  rw [Acg]
  exact Vi _ n f (λk=>As (f k)) h8 (Ck (λk=>As (f k)) n) _ (λi hi=>Z0 hb hi) n 0 _ (n+1) (by omega) (by omega)
theorem Yw (L:LT) (n:Nat) (f:Nat->E6) (hn:n <= 4611686018427387903):∀ (e i:Nat) (j:Nat->V) (q:Nat),n = i+e->e < q->(∀ k,k < i->(λk=>Ar (f k)) ((k+(n - 1)) % n) = false) ->
  (A8 (J2 L) (P7 n f) q (Ph n f i j)).sem = some (UC n f (Ck (λk=>Ar (f k)) n))
 | 0,i,j,q+1,h,_,hb=>by
  have:n = i:=by omega
  subst this
  rw [OC hb]
  exact Ad (AeI L n f n j (AF (Nat.le_refl _)))
 | e+1,i,j,q+1,h,h2,hb=>by
  have hl:i < n:=by omega
  have hx:=J4 (a:=i) (n:=n) (by omega) (by omega)
  have hin:Af (ile 0 (Ab (wr .i64 (Au (wr .i64 (Ae (ofNat i) (ofNat n))) 1)) (ofNat n))) (ilt (Ab (wr .i64 (Au (wr .i64 (Ae (ofNat i) (ofNat n))) 1)) (ofNat n)) (ofNat n)) = true:=by
   rw [hx]
   exact Ap (Nat.mod_lt _ (by omega))
  cases hp:Ar (f ((i+(n - 1)) % n)) with
  | true =>
   rw [Tw (p:=λk=>Ar (f k)) hl hp hb]
   exact Ad (AeE L n f i j (ofNat_lt hl) (FP (by omega)) hin (by rw [hx]; exact hp))
  | false =>
   rw [Ad (AeG L n f i j (ofNat_lt hl) (FP (by omega)) hin (by rw [hx]; exact hp)),Aw,Ao hl (by omega)]
   refine Yw L n f hn e (i+1) (λ_=>.und) q (by omega) (by omega) λk hk=>?_
   by_cases hki:k = i
   ·rw [hki]; exact hp
   ·exact hb k (by omega)
theorem Vj (L:LT) (n:Nat) (f:Nat->E6) (hn:n <= 4611686018427387903) (z:Nat) (hz:z < n):∀ (e b:Nat) (j:Nat->V) (q:Nat),n = b+e->e < q ->
  (A8 (ED L) (H9 n f) q (IV n f z b (Ak (Ec (λk=>Ar (f k)) n z) (b - 1)) (gN (λk=>Ar (f k)) n z b) j)).sem = some (Oq n f z 0 0 (gN (λk=>Ar (f k)) n z n))
 | 0,b,j,q+1,h,_=>by
  have:n = b:=by omega
  subst this
  exact Ad (AeC L n f z n _ _ j (AF (Nat.le_refl _)))
 | e+1,b,j,q+1,h,h2=>by
  have hl:b < n:=by omega
  have hI:Ab (wr .i64 (Ae (ofNat z) (ofNat b))) (ofNat n) = ofNat ((z+b) % n):=by rw [DI (by omega),C9]
  have hlt:(z+b) % n < n:=Nat.mod_lt _ (by omega)
  have hin:Af (ile 0 (Ab (wr .i64 (Ae (ofNat z) (ofNat b))) (ofNat n))) (ilt (Ab (wr .i64 (Ae (ofNat z) (ofNat b))) (ofNat n)) (ofNat n)) = true:=by
   rw [hI]
   exact Ap hlt
  have hnl:nlt (toN (Ab (wr .i64 (Ae (ofNat z) (ofNat b))) (ofNat n))) n = true:=by
   rw [hI]
   exact decide_eq_true hlt
  have next:=Vj L n f hn z hz e (b+1) (λ_=>.und) q (by omega) (by omega)
  rw [show b+1 - 1 = b by omega] at next
  cases b with
  | zero =>
   rw [Ad (Ae6 L n f z 0 _ _ j (ofNat_lt hl) (FP (by omega)) rfl hin hnl),Aw,hI,Ao hl (by omega),show toN (ofNat ((z+0) % n)) = (z+0) % n from rfl,Cn]
   have hs:=MK (p:=λk=>Ar (f k)) hz hl
   rw [<- hs] at next
   exact next
  | succ b =>
   have hx:Ab (wr .i64 (Au (wr .i64 (Ae (Ab (wr .i64 (Ae (ofNat z) (ofNat (b+1)))) (ofNat n)) (ofNat n))) 1)) (ofNat n) = ofNat ((z+b) % n):=by
    rw [hI,J4 (by omega) (by omega),PS hz (by omega)]
   have hxin:Af (ile 0 (Ab (wr .i64 (Au (wr .i64 (Ae (Ab (wr .i64 (Ae (ofNat z) (ofNat (b+1)))) (ofNat n)) (ofNat n))) 1)) (ofNat n))) (ilt (Ab (wr .i64 (Au (wr .i64 (Ae (Ab (wr .i64 (Ae (ofNat z) (ofNat (b+1)))) (ofNat n)) (ofNat n))) 1)) (ofNat n)) (ofNat n)) = true:=by
    rw [hx]
    exact Ap (Nat.mod_lt _ (by omega))
   have hs:=MK (p:=λk=>Ar (f k)) hz hl
   have hc:=Bd (Ec (λk=>Ar (f k)) n z) b
   have h0:ilt 0 (ofNat (b+1)) = true:=by rw [show (0:Int) = ofNat 0 from rfl,CN]; simp
   rw [show b+1 - 1 = b by omega]
   cases hp:Ar (f ((z+b) % n)) with
   | true =>
    rw [Ad (Ae8 L n f z (b+1) _ _ j (ofNat_lt hl) (FP (by omega)) h0 hxin (by rw [hx]; exact hp) hin hnl),Aw,hI,Ao hl (by omega),show toN (ofNat ((z+(b+1)) % n)) = (z+(b+1)) % n from rfl,Ao (show Ak (Ec (λk=>Ar (f k)) n z) b < n by omega) (by omega),Cn,<- Bk (p:=Ec (λk=>Ar (f k)) n z) (i:=b) hp,hs]
    exact next
   | false =>
    rw [Ad (AeA L n f z (b+1) _ _ j (ofNat_lt hl) (FP (by omega)) h0 hxin (by rw [hx]; exact hp) hin hnl),Aw,hI,Ao hl (by omega),show toN (ofNat ((z+(b+1)) % n)) = (z+(b+1)) % n from rfl,Cn,<- B0 (p:=Ec (λk=>Ar (f k)) n z) (i:=b) hp,hs]
    exact next
theorem Vh (L:LT) (n:Nat) (f:Nat->E6) (p:Nat->Bool) (hn:n * 8 <= 140737488355328) (z:Nat) (g:Nat->Int) (hg:∀ i,i < n->g i = ofNat (snN p n z (Ba p n i))):∀ (e b:Nat) (j:Nat->V) (q:Nat),n = b+e->e < q ->
  (A8 (FB L) (Jl n f) q (Kh n f b (rN p n b) g (EO p n z b) (Up p n b) j)).sem = some (On n f 0 (rN p n n) g (EO p n z n) (Av p n))
 | 0,b,j,q+1,h,_=>by
  have:n = b:=by omega
  subst this
  rw [<- YL p n]
  exact Ad (Ae4 L n f n _ _ _ _ j (AF (Nat.le_refl _)))
 | e+1,b,j,q+1,h,h2=>by
  have hl:b < n:=by omega
  have hr:=Sc p n b
  have h8:CV (rN p n b) = true:=by
   unfold CV
   simp
   omega
  have hnl:nlt b n = true:=by simpa [nlt] using hl
  have next:=Vh L n f p hn z g hg e (b+1) (λ_=>.und) q (by omega) (by omega)
  rcases Nat.lt_or_ge (Ba p n b) (rN p n b) with hc | hc
  ·have hi:=RT (z:=z) hl hc
   rw [<- hg b hl] at hi
   obtain ⟨e1,e2⟩:=Nr (z:=z) hc
   rw [Ad (Ae0 L n f b _ g _ _ j (ofNat_lt hl) (AK b) hnl h8 (by rw [hi]; simp [ilt])),Aw,Ao hl (by omega),hi,Cn,Jj hl]
   rw [e1,e2] at next
   exact next
  ·have hc:Ba p n b = rN p n b:=Nat.le_antisymm (Ku p n b hl) hc
   have hi:=RU (z:=z) hl hc
   rw [<- hg b hl] at hi
   obtain ⟨e1,e2⟩:=Pm (z:=z) hc
   rw [<- hg b hl] at e1
   rw [Ad (Ae2 L n f b _ g _ _ j (ofNat_lt hl) (AK b) hnl h8 (by rw [hi]; rfl) (Cc (by omega))),Aw,Ao hl (by omega),e1,Cn,<- hc,Jj hl]
   rw [e2,<- hc] at next
   exact next
def US:List (Nat × List (Nat × V)):=[(4,[(2,iV 0)])]
def Q9 (n:Nat) (f:Nat->E6):List (Nat × Lp):=[(0,P7 n f),(2,H9 n f),(4,Jl n f)]
theorem Acf (n:Nat) (f:Nat->E6) (z:Nat) (g:Nat->Int):CW (VX n f z g) [(2,iV 0)] = Kh n f 0 0 g (λ_=>0) (λ_=>0) (λi=>nth (VX n f z g).t i):=by kernel_rfl
theorem Agx (n:Nat) (f:Nat->E6) (z:Nat):Wf n f z = IV n f z 0 0 (λ_=>0) (λi=>nth (Wf n f z).t i):=by kernel_rfl
theorem Aa4 (n:Nat) (f:Nat->E6) (hp:0 < n) (h8:n * 8 <= 140737488355328) (hm:BK 8 (ofNat n) (ofNat n) = true) :
  (A2 (An tab (cxZ Gl tb53 US (Q9 n f)) Try.f53 [A3 n f,.fn 54 []] [])).sem = some (.ref 0,[.row 3 1 n λk=>iV (Av (λk=>Ar (f k)) n k)]):=by
 have hL:=DW US (Q9 n f)
 have hz:=Tv (λk=>Ar (f k)) hp
 have hb:=OB (λk=>Ar (f k)) hp
 refine A6 (Az (Az (Az hL hL) hL) hL) _ (AgG _ _ _ _ n f (Ck (λk=>Ar (f k)) n) (gN (λk=>Ar (f k)) n (Ck (λk=>Ar (f k)) n) n) (rN (λk=>Ar (f k)) n n) (gN (λk=>Ar (f k)) n (Ck (λk=>Ar (f k)) n) n) (EO (λk=>Ar (f k)) n (Ck (λk=>Ar (f k)) n) n) (Av (λk=>Ar (f k)) n) hm
  (Am ?_) (Am ?_) (Am ?_))
 ·show (A8 _ (P7 n f) (n+1) _).sem = _
  exact Yw _ n f (by omega) n 0 _ (n+1) (by omega) (by omega) (λk hk=>absurd hk (Nat.not_lt_zero _))
 ·show (A8 _ (H9 n f) (n+1) _).sem = _
  rw [Agx]
  have h:=λL j=>Vj L n f (by omega) _ hz n 0 j (n+1) (by omega) (by omega)
  simp only [Ajh] at h
  exact h _ _
 ·show (A8 _ (Jl n f) (n+1) (CW _ [(2,iV 0)])).sem = _
  rw [Acf]
  exact Vh _ n f (λk=>Ar (f k)) h8 (Ck (λk=>Ar (f k)) n) _ (λi hi=>Z0 hb hi) n 0 _ (n+1) (by omega) (by omega)
noncomputable def Agh:List V->T (V × List Blk)
 | [v,.fn g []]=>apL v λn f=>.br (Af (ilt 0 (ofNat n)) (Af (CV n) (BK 8 (ofNat n) (ofNat n)))) (match Nat.beq g 52,Nat.beq g 54 with
  | true,_=>.leaf (.ref 0,[.row 3 1 n λk=>iV (Av (λk=>As (f k)) n k)])
  | _,true=>.leaf (.ref 0,[.row 3 1 n λk=>iV (Av (λk=>Ar (f k)) n k)])
  | _,_=>.fail) .fail
 | _=>.fail
theorem p53:AA Try.prog Gl 53 Agh:=by
 refine A5 AQ AR Try.func53 (by kernel_rfl) (by kernel_rfl) λvs v h' h=>?_
 unfold Agh at h
 split at h
 ·rename_i u g
  obtain ⟨n,f,ha,h1⟩:=Cl h
  obtain ⟨h8,hq⟩:=Ag h1
  have h8:ilt 0 (ofNat n) = true ∧ CV n = true ∧ BK 8 (ofNat n) (ofNat n) = true:=by simpa [Af] using h8
  obtain ⟨h9,h8,hm⟩:=h8
  have h9:0 < n:=by rw [show (0:Int) = ofNat 0 from rfl,CN] at h9; simpa using h9
  have h8':n * 8 <= 140737488355328:=of_decide_eq_true h8
  have hA:BL [u,.fn g []] [A3 n f,.fn g []]:=λS w cs hv=>by
   obtain ⟨c,l,rfl,q1,q2⟩:=hv
   exact ⟨c,l,rfl,ha S w c q1,q2⟩
  cases h52:Nat.beq g 52 with
  | true =>
   rw [h52] at hq
   have he:=Nat.eq_of_beq_eq_true h52
   subst he
   have:=Ac hq
   simp only [Prod.mk.injEq] at this
   obtain ⟨rfl,rfl⟩:=this
   have hx:=JX tb53_ok UT (QA n f) (G:=Gl)
   exact ⟨_,cxZ Gl tb53 UT (QA n f),_,hA,rfl,hx.1,hx.2,Aa5 n f h9 h8' hm,AE.refl _⟩
  | false =>
   rw [h52] at hq
   cases h54:Nat.beq g 54 with
   | true =>
    rw [h54] at hq
    have he:=Nat.eq_of_beq_eq_true h54
    subst he
    have:=Ac hq
    simp only [Prod.mk.injEq] at this
    obtain ⟨rfl,rfl⟩:=this
    have hx:=JX tb53_ok US (Q9 n f) (G:=Gl)
    exact ⟨_,cxZ Gl tb53 US (Q9 n f),_,hA,rfl,hx.1,hx.2,Aa4 n f h9 h8' hm,AE.refl _⟩
   | false =>
    rw [h54] at hq
    cases hq
 ·cases h
end Go.Proofs.Ytjhnfomefcngfaa.Sh
