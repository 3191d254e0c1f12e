/-
  Layer 7: the program's numbers of threads and of locations (met) are the document's parts. No conditions.
-/
import Derived.Test.YtjhnfomefcngfaaShBa
import Derived.Test.YtjhnfomefcngfaaCyR
namespace Go.Proofs.Ytjhnfomefcngfaa.Sh
open Go.Sy Ed
open Int (ofNat)
noncomputable def tb53:List (Nat × (List V->T (V × List Blk))):=[(52,BN fun e=>bV (Ay e)),(54,BN fun e=>bV (Au e)),(92,TS)]
theorem tb53_ok:AC Try.prog Gl tb53:=.cons p52 <| .cons p54 <| .cons p92 .nil
theorem Bu {a n:Nat} (h:a < 2 * n):a % n = if a < n then a else a - n:=by
  split
  · rename_i h1; exact Nat.mod_eq_of_lt h1
  · rename_i h1
    have h1:n <= a:=Nat.le_of_not_lt h1
    rw [Nat.mod_eq_sub_mod h1,Nat.mod_eq_of_lt (by omega)]
theorem Afy {n z b:Nat} (hz:z < n) (hb:b < n):posN n z ((z+b) % n) = b:=by
  unfold posN
  rw [Bu (a:=z+b) (by omega)]
  split
  · rw [Bu (by omega)]; split <;> omega
  · rw [Bu (by omega)]; split <;> omega
theorem AaB {n z i:Nat} (hz:z < n) (hi:i < n):(z+posN n z i) % n = i:=by
  unfold posN
  rw [Bu (a:=i+(n - z)) (by omega)]
  split
  · rw [Bu (by omega)]; split <;> omega
  · rw [Bu (by omega)]; split <;> omega
theorem P6 {n z b:Nat} (hz:z < n) (hb:b < n):((z+(b+1)) % n+(n - 1)) % n = (z+b) % n:=by
  rcases Nat.lt_or_ge (b+1) n with h | h
  · rw [Bu (a:=z+(b+1)) (by omega),Bu (a:=z+b) (by omega)]
    split <;> split <;> (rw [Bu (by omega)]; split <;> omega)
  · have:b+1 = n:=by omega
    rw [this,Nat.add_mod_right,Nat.mod_eq_of_lt hz]
    rw [Bu (by omega),Bu (a:=z+b) (by omega)]
    split <;> split <;> omega
theorem F7 {n:Nat} (h:0 < n):ieq (ofNat n) 0 = false:=by
  simp [ieq]
  omega
theorem Jp {a n:Nat} (hn:0 < n) (h:a+n <= 9223372036854775807):Ae (wr .i64 (AF (wr .i64 (Af (ofNat a) (ofNat n))) 1)) (ofNat n) = ofNat ((a+(n - 1)) % n):=by
  rw [DD h]
  have:wr .i64 (AF (ofNat (a+n)) 1) = ofNat (a+(n - 1)):=by
    have:ofNat (a+n) = ofNat (a+(n - 1)+1):=by congr 1; omega
    rw [this]
    unfold wr AF IntKind.wrap
    simp [IntKind.bits,IntKind.signed]
    omega
  rw [this,CA]
def Ch (p:Nat->Bool) (n:Nat):Nat:=match (List.range n).find? fun i=>p ((i+(n - 1)) % n) with
  | some z=>z
  | none=>0
theorem SP {p:Nat->Bool} {n i:Nat} (hi:i < n) (h:p ((i+(n - 1)) % n) = true) (hb:∀ k,k < i->p ((k+(n - 1)) % n) = false):Ch p n = i:=by
  unfold Ch
  have:(List.range n).find? (fun i=>p ((i+(n - 1)) % n)) = some i:=by
    rw [List.find?_range_eq_some]
    exact ⟨h,by simpa using hi,fun j hj=>by rw [hb j hj]; rfl⟩
  rw [this]
theorem Ot {p:Nat->Bool} {n:Nat} (hb:∀ k,k < n->p ((k+(n - 1)) % n) = false):Ch p n = 0:=by
  unfold Ch
  have:(List.range n).find? (fun i=>p ((i+(n - 1)) % n)) = none:=by
    rw [List.find?_eq_none]
    intro k hk
    rw [hb k (by simpa using hk)]
    simp
  rw [this]
theorem Oq (p:Nat->Bool) {n:Nat} (hn:0 < n):Begin p n (Ch p n):=by
  cases h:(List.range n).find? (fun i=>p ((i+(n - 1)) % n)) with
  | none =>
    have hz:Ch p n = 0:=by unfold Ch; rw [h]
    rw [hz]
    rw [List.find?_eq_none] at h
    refine .none fun k hk=>?_
    have:=h ((k+1) % n) (by simpa using Nat.mod_lt _ hn)
    rw [show ((k+1) % n+(n - 1)) % n = k by
      rw [Bu (a:=k+1) (by omega)]
      split <;> (rw [Bu (by omega)]; split <;> omega)] at this
    simpa using this
  | some z =>
    have hz:Ch p n = z:=by unfold Ch; rw [h]
    rw [hz]
    rw [List.find?_range_eq_some] at h
    obtain ⟨h1,h2,h3⟩:=h
    have h2:z < n:=by simpa using h2
    have at':∀ k,0 < k->k < n->(k+(n - 1)) % n = k - 1:=fun k h0 hk=>by
      rw [Bu (by omega)]; split <;> omega
    have at0:(0+(n - 1)) % n = n - 1:=by rw [Nat.zero_add,Nat.mod_eq_of_lt (by omega)]
    rcases Nat.eq_zero_or_pos z with h0 | h0
    · subst h0
      rw [at0] at h1
      exact .last hn h1
    · rw [at' z h0 h2] at h1
      refine .first h0 h2 h1 (fun k hk=>?_) ?_
      · have:=h3 (k+1) (by omega)
        rw [at' (k+1) (by omega) (by omega)] at this
        simpa using this
      · have:=h3 0 h0
        rw [at0] at this
        simpa using this
theorem SO (p:Nat->Bool) {n:Nat} (hn:0 < n):Ch p n < n:=by
  have h:=Oq p hn
  generalize Ch p n = z at h
  cases h with
  | none _=>exact hn
  | last _ _=>exact hn
  | first _ h _ _ _=>exact h
def gN (p:Nat->Bool) (n z b i:Nat):Int:=if i < n ∧ posN n z i < b then ofNat (Ak (DX p n z) (posN n z i)) else 0
theorem AiC (p:Nat->Bool) (n z:Nat):gN p n z 0 = fun _=>0:=by
  funext i
  simp [gN]
theorem Mz {p:Nat->Bool} {n z b:Nat} (hz:z < n) (hb:b < n):MD (gN p n z b) ((z+b) % n) (ofNat (Ak (DX p n z) b)) = gN p n z (b+1):=by
  funext i
  unfold MD
  by_cases hi:i = (z+b) % n
  · subst hi
    rw [show decide ((z+b) % n = (z+b) % n) = true by simp]
    simp only [cond_true]
    unfold gN
    rw [Afy hz hb,if_pos ⟨Nat.mod_lt _ (by omega),by omega⟩]
  · rw [show decide (i = (z+b) % n) = false by simpa using hi]
    simp only [cond_false]
    unfold gN
    by_cases hin:i < n
    · have hp:posN n z i ≠ b:=fun he=>hi (by rw [<- he,AaB hz hin])
      by_cases h1:posN n z i < b
      · rw [if_pos ⟨hin,h1⟩,if_pos ⟨hin,by omega⟩]
      · rw [if_neg (fun h=>h1 h.2),if_neg (fun h=>by have:=h.2; omega)]
    · rw [if_neg (fun h=>hin h.1),if_neg (fun h=>hin h.1)]
theorem YO {p:Nat->Bool} {n z i:Nat} (hb:Begin p n z) (hi:i < n):gN p n z n i = ofNat (snN p n z (Bd p n i)):=by
  unfold gN
  rw [if_pos ⟨hi,show (i+(n - z)) % n < n from Nat.mod_lt _ (by omega)⟩,AaC hb hi]
def ED (p:Nat->Bool) (n z b i:Nat):Int:=if i < rN p n b then ofNat (snN p n z i) else 0
def TF (p:Nat->Bool) (n b i:Nat):Int:=if i < b then A0 p n i else 0
theorem Ye (p:Nat->Bool) (n:Nat):TF p n n = A0 p n:=by
  funext i
  unfold TF
  split
  · rfl
  · rename_i h
    unfold A0
    rw [show decide (i < n) = false by simpa using h]
    rfl
theorem IV {p:Nat->Bool} {n b:Nat} (hb:b < n):MD (TF p n b) b (ofNat (Bd p n b)) = TF p n (b+1):=by
  funext i
  unfold MD TF
  by_cases hi:i = b
  · subst hi
    rw [if_pos (Nat.lt_succ_self i),Ho hb]
    simp
  · rw [show decide (i = b) = false by simpa using hi]
    simp only [cond_false]
    by_cases h1:i < b
    · rw [if_pos h1,if_pos (by omega)]
    · rw [if_neg h1,if_neg (by omega)]
theorem MW {p:Nat->Bool} {n z b:Nat} (h:Bd p n b < rN p n b):ED p n z (b+1) = ED p n z b ∧ rN p n (b+1) = rN p n b:=by
  have:rN p n (b+1) = rN p n b:=by rw [rN,if_pos h]
  exact ⟨by funext i; unfold ED; rw [this],this⟩
theorem OP {p:Nat->Bool} {n z b:Nat} (h:Bd p n b = rN p n b):AO (rN p n b) (fun i=>iV (ED p n z b i)) (iV (ofNat (snN p n z (Bd p n b)))) = (fun i=>iV (ED p n z (b+1) i)) ∧ rN p n (b+1) = rN p n b+1:=by
  have hr:rN p n (b+1) = rN p n b+1:=by rw [rN,if_neg (by omega)]
  refine ⟨?_,hr⟩
  funext k
  rw [B4,show Nat.beq k (rN p n b) = decide (k = rN p n b) by rw [Bool.eq_iff_iff]; simp]
  unfold ED
  rw [hr]
  by_cases hk:k = rN p n b
  · rw [hk,h]; simp
  · by_cases h2:k < rN p n b
    · have:k < rN p n b+1:=by omega
      simp [hk,h2,this]
    · have:¬ k < rN p n b+1:=by omega
      simp [hk,h2,this]
theorem Rx {p:Nat->Bool} {n z b:Nat} (hb:b < n) (h:Bd p n b < rN p n b):Hz (rN p n b) (ED p n z b) (ofNat (snN p n z (Bd p n b))) = ofNat (Bd p n b):=by
  refine Pq h ?_ fun k hk=>?_
  · unfold ED
    rw [if_pos h]
    simp [ieq]
  · unfold ED
    rw [if_pos (by omega)]
    have:=Acj p n b (by omega) _ h
    cases he:ieq (ofNat (snN p n z (Bd p n b))) (ofNat (snN p n z k)) with
    | false=>rfl
    | true =>
      have he:=Int.ofNat.inj ((beq_iff_eq (α:=Int)).1 he)
      have:=X1 (p:=p) (n:=n) (z:=z) (Nat.le_of_lt hk) this he.symm
      omega
theorem Ry {p:Nat->Bool} {n z b:Nat} (hb:b < n) (h:Bd p n b = rN p n b):Hz (rN p n b) (ED p n z b) (ofNat (snN p n z (Bd p n b))) = -1:=by
  refine Sn fun k hk=>?_
  unfold ED
  rw [if_pos hk]
  cases he:ieq (ofNat (snN p n z (Bd p n b))) (ofNat (snN p n z k)) with
  | false=>rfl
  | true =>
    have he:=Int.ofNat.inj ((beq_iff_eq (α:=Int)).1 he)
    have:=X1 (p:=p) (n:=n) (z:=z) (show k <= Bd p n b by omega) (Nk (by omega)) he.symm
    omega
def Pj (n:Nat) (f:Nat->E6):Lp:=⟨(bmK 97 0 [0,1,4,5,6,18,19]),1,bmK 97 0 [0,1,4,5,6],1,n+1⟩
def OM (n:Nat) (f:Nat->E6) (b:Nat) (j:Nat->V):St:=⟨(jsV 97 0 j [(0,.sl 6 n fun i=>eV (f i)),(1,.fn 52 []),(4,.ref 0),(5,nV n),(6,iV 0),(18,nV n),(19,nV b)]),[.row 3 1 0 (fun _=>.und)]⟩
def Ud (n:Nat) (f:Nat->E6) (b:Nat):Ex × St:=(.ex 0,⟨(jsV 97 0 (fun _=>.und) [(0,.sl 6 n fun i=>eV (f i)),(1,.fn 52 []),(4,.ref 0),(5,nV n),(6,nV b)]),[.row 3 1 0 (fun _=>.und)]⟩)
noncomputable def Jo (L:LT):St->T (Ex × St):=fun st=>AE tab ⟨Ao tb53,L,Gl⟩ (Az Try.f53 0) 0 st
section
variable (L:LT) (n:Nat) (f:Nat->E6) (b:Nat)  (j:Nat->V)
include L n f b j
theorem Aed (h0:ilt (ofNat b) (ofNat n) = true) (h1:ieq (ofNat n) 0 = false) (h13:Ag (ile 0 (Ae (wr .i64 (AF (wr .i64 (Af (ofNat b) (ofNat n))) 1)) (ofNat n))) (ilt (Ae (wr .i64 (AF (wr .i64 (Af (ofNat b) (ofNat n))) 1)) (ofNat n)) (ofNat n)) = true) (h2:Ay (f (toN (Ae (wr .i64 (AF (wr .i64 (Af (ofNat b) (ofNat n))) 1)) (ofNat n)))) = false):Al (Jo L) (Pj n f) (OM n f b j) = some (.nm,⟨(jsV 97 0 (fun _=>.und) [(0,(.sl 6 n (fun i=>eV (f i)))),(1,(.fn 52 [])),(4,(.ref 0)),(5,(nV n)),(6,(iV 0)),(18,(nV n)),(19,(iV (wr .i64 (Af (ofNat b) 1))))]),[r3Z]⟩):=Aa [true,false,true,false] [ilt (ofNat b) (ofNat n),ieq (ofNat n) 0,Ag (ile 0 (Ae (wr .i64 (AF (wr .i64 (Af (ofNat b) (ofNat n))) 1)) (ofNat n))) (ilt (Ae (wr .i64 (AF (wr .i64 (Af (ofNat b) (ofNat n))) 1)) (ofNat n)) (ofNat n)),Ay (f (toN (Ae (wr .i64 (AF (wr .i64 (Af (ofNat b) (ofNat n))) 1)) (ofNat n))))] (by kernel_rfl) (by simp only [h13] <;> simp only [*] <;> rfl)
theorem Aeb (h0:ilt (ofNat b) (ofNat n) = true) (h1:ieq (ofNat n) 0 = false) (h13:Ag (ile 0 (Ae (wr .i64 (AF (wr .i64 (Af (ofNat b) (ofNat n))) 1)) (ofNat n))) (ilt (Ae (wr .i64 (AF (wr .i64 (Af (ofNat b) (ofNat n))) 1)) (ofNat n)) (ofNat n)) = true) (h2:Ay (f (toN (Ae (wr .i64 (AF (wr .i64 (Af (ofNat b) (ofNat n))) 1)) (ofNat n)))) = true):Al (Jo L) (Pj n f) (OM n f b j) = some ((.ex 0),⟨(jsV 97 0 (fun _=>.und) [(0,(.sl 6 n (fun i=>eV (f i)))),(1,(.fn 52 [])),(4,(.ref 0)),(5,(nV n)),(6,(nV b))]),[r3Z]⟩):=Aa [true,false,true,true] [ilt (ofNat b) (ofNat n),ieq (ofNat n) 0,Ag (ile 0 (Ae (wr .i64 (AF (wr .i64 (Af (ofNat b) (ofNat n))) 1)) (ofNat n))) (ilt (Ae (wr .i64 (AF (wr .i64 (Af (ofNat b) (ofNat n))) 1)) (ofNat n)) (ofNat n)),Ay (f (toN (Ae (wr .i64 (AF (wr .i64 (Af (ofNat b) (ofNat n))) 1)) (ofNat n))))] (by kernel_rfl) (by simp only [h13] <;> simp only [*] <;> rfl)
theorem Aef (h0:ilt (ofNat b) (ofNat n) = false):Al (Jo L) (Pj n f) (OM n f b j) = some ((.ex 0),⟨(jsV 97 0 (fun _=>.und) [(0,(.sl 6 n (fun i=>eV (f i)))),(1,(.fn 52 [])),(4,(.ref 0)),(5,(nV n)),(6,(iV 0))]),[r3Z]⟩):=Aa [false] [ilt (ofNat b) (ofNat n)] (by kernel_rfl) (by simp only [h0] <;> rfl)
end
def Acx (n:Nat) (f:Nat->E6) :Nat->V:=lkV A8 [(16,(.sl 6 n (fun i=>eV (f i)))),(17,(nV n))]
def Ht (n:Nat) (f:Nat->E6):Lp:=⟨(bmK 97 0 [0,1,4,5,6,8,9,37,38]),2,bmK 97 0 [0,1,4,5,8],2,n+1⟩
def II (n:Nat) (f:Nat->E6) (z b k:Nat) (g:Nat->Int) (j:Nat->V):St:=⟨(jsV 97 0 j [(0,.sl 6 n fun i=>eV (f i)),(1,.fn 52 []),(4,.ref 0),(5,nV n),(6,nV z),(8,.ref 1),(9,nV k),(37,nV n),(38,nV b)]),[.row 3 1 0 (fun _=>.und),.row 3 1 n (fun i=>iV (g i))]⟩
def NU (n:Nat) (f:Nat->E6) (z b k:Nat) (g:Nat->Int):Ex × St:=(.ex 2,⟨(jsV 97 0 (fun _=>.und) [(0,.sl 6 n fun i=>eV (f i)),(1,.fn 52 []),(4,.ref 0),(5,nV n),(8,.ref 1)]),[.row 3 1 0 (fun _=>.und),.row 3 1 n (fun i=>iV (g i))]⟩)
noncomputable def E0 (L:LT):St->T (Ex × St):=fun st=>AE tab ⟨Ao tb53,L,Gl⟩ (Az Try.f53 2) 2 st
section
variable (L:LT) (n:Nat) (f:Nat->E6) (z b k:Nat) (g:Nat->Int)  (j:Nat->V)
include L n f z b k g j
theorem AdT (h0:ilt (ofNat b) (ofNat n) = true) (h1:ieq (ofNat n) 0 = false) (h2:ilt 0 (ofNat b) = false) (h13:Ag (ile 0 (Ae (wr .i64 (Af (ofNat z) (ofNat b))) (ofNat n))) (ilt (Ae (wr .i64 (Af (ofNat z) (ofNat b))) (ofNat n)) (ofNat n)) = true) (h14:nlt (toN (Ae (wr .i64 (Af (ofNat z) (ofNat b))) (ofNat n))) n = true):Al (E0 L) (Ht n f) (II n f z b k g j) = some (.nm,⟨(jsV 97 0 (fun _=>.und) [(0,(.sl 6 n (fun i=>eV (f i)))),(1,(.fn 52 [])),(4,(.ref 0)),(5,(nV n)),(6,(nV z)),(8,(.ref 1)),(9,(nV k)),(37,(nV n)),(38,(iV (wr .i64 (Af (ofNat b) 1))))]),[r3Z,.row 3 1 n (Bs (fun i=>iV (g i)) (toN (Ae (wr .i64 (Af (ofNat z) (ofNat b))) (ofNat n))) (nV k))]⟩):=Aa (bbK 17 98305) ((fun c0=>[ilt (ofNat b) (ofNat n),ieq (ofNat n) 0,c0,c0,c0,c0,c0,c0,c0,c0,c0,c0,c0,c0,false,Ag (ile 0 (Ae (wr .i64 (Af (ofNat z) (ofNat b))) (ofNat n))) (ilt (Ae (wr .i64 (Af (ofNat z) (ofNat b))) (ofNat n)) (ofNat n)),nlt (toN (Ae (wr .i64 (Af (ofNat z) (ofNat b))) (ofNat n))) n]) (ilt 0 (ofNat b))) (by kernel_rfl) (by simp only [h13] <;> simp only [*] <;> rfl)
theorem AdX (h0:ilt (ofNat b) (ofNat n) = true) (h1:ieq (ofNat n) 0 = false) (h2:ilt 0 (ofNat b) = true) (h14:Ag (ile 0 (Ae (wr .i64 (AF (wr .i64 (Af (Ae (wr .i64 (Af (ofNat z) (ofNat b))) (ofNat n)) (ofNat n))) 1)) (ofNat n))) (ilt (Ae (wr .i64 (AF (wr .i64 (Af (Ae (wr .i64 (Af (ofNat z) (ofNat b))) (ofNat n)) (ofNat n))) 1)) (ofNat n)) (ofNat n)) = true) (h3:Ay (f (toN (Ae (wr .i64 (AF (wr .i64 (Af (Ae (wr .i64 (Af (ofNat z) (ofNat b))) (ofNat n)) (ofNat n))) 1)) (ofNat n)))) = false) (h16:Ag (ile 0 (Ae (wr .i64 (Af (ofNat z) (ofNat b))) (ofNat n))) (ilt (Ae (wr .i64 (Af (ofNat z) (ofNat b))) (ofNat n)) (ofNat n)) = true) (h17:nlt (toN (Ae (wr .i64 (Af (ofNat z) (ofNat b))) (ofNat n))) n = true):Al (E0 L) (Ht n f) (II n f z b k g j) = some (.nm,⟨(jsV 97 0 (fun _=>.und) [(0,(.sl 6 n (fun i=>eV (f i)))),(1,(.fn 52 [])),(4,(.ref 0)),(5,(nV n)),(6,(nV z)),(8,(.ref 1)),(9,(nV k)),(37,(nV n)),(38,(iV (wr .i64 (Af (ofNat b) 1))))]),[r3Z,.row 3 1 n (Bs (fun i=>iV (g i)) (toN (Ae (wr .i64 (Af (ofNat z) (ofNat b))) (ofNat n))) (nV k))]⟩):=Aa (bbK 19 457725) ((fun c0 c1=>[ilt (ofNat b) (ofNat n),c0,c1,c1,c1,c1,c1,c1,c1,c1,c0,c1,Ag (ile 0 (Ae (wr .i64 (AF (wr .i64 (Af (Ae (wr .i64 (Af (ofNat z) (ofNat b))) (ofNat n)) (ofNat n))) 1)) (ofNat n))) (ilt (Ae (wr .i64 (AF (wr .i64 (Af (Ae (wr .i64 (Af (ofNat z) (ofNat b))) (ofNat n)) (ofNat n))) 1)) (ofNat n)) (ofNat n)),c1,c1,c1,Ay (f (toN (Ae (wr .i64 (AF (wr .i64 (Af (Ae (wr .i64 (Af (ofNat z) (ofNat b))) (ofNat n)) (ofNat n))) 1)) (ofNat n)))),Ag (ile 0 (Ae (wr .i64 (Af (ofNat z) (ofNat b))) (ofNat n))) (ilt (Ae (wr .i64 (Af (ofNat z) (ofNat b))) (ofNat n)) (ofNat n)),nlt (toN (Ae (wr .i64 (Af (ofNat z) (ofNat b))) (ofNat n))) n]) (ieq (ofNat n) 0) (ilt 0 (ofNat b))) (by kernel_rfl) (by simp only [h14,h16] <;> simp only [*] <;> rfl)
theorem AdV (h0:ilt (ofNat b) (ofNat n) = true) (h1:ieq (ofNat n) 0 = false) (h2:ilt 0 (ofNat b) = true) (h14:Ag (ile 0 (Ae (wr .i64 (AF (wr .i64 (Af (Ae (wr .i64 (Af (ofNat z) (ofNat b))) (ofNat n)) (ofNat n))) 1)) (ofNat n))) (ilt (Ae (wr .i64 (AF (wr .i64 (Af (Ae (wr .i64 (Af (ofNat z) (ofNat b))) (ofNat n)) (ofNat n))) 1)) (ofNat n)) (ofNat n)) = true) (h3:Ay (f (toN (Ae (wr .i64 (AF (wr .i64 (Af (Ae (wr .i64 (Af (ofNat z) (ofNat b))) (ofNat n)) (ofNat n))) 1)) (ofNat n)))) = true) (h16:Ag (ile 0 (Ae (wr .i64 (Af (ofNat z) (ofNat b))) (ofNat n))) (ilt (Ae (wr .i64 (Af (ofNat z) (ofNat b))) (ofNat n)) (ofNat n)) = true) (h17:nlt (toN (Ae (wr .i64 (Af (ofNat z) (ofNat b))) (ofNat n))) n = true):Al (E0 L) (Ht n f) (II n f z b k g j) = some (.nm,⟨(jsV 97 0 (fun _=>.und) [(0,(.sl 6 n (fun i=>eV (f i)))),(1,(.fn 52 [])),(4,(.ref 0)),(5,(nV n)),(6,(nV z)),(8,(.ref 1)),(9,(iV (wr .i64 (Af (ofNat k) 1)))),(37,(nV n)),(38,(iV (wr .i64 (Af (ofNat b) 1))))]),[r3Z,.row 3 1 n (Bs (fun i=>iV (g i)) (toN (Ae (wr .i64 (Af (ofNat z) (ofNat b))) (ofNat n))) (iV (wr .i64 (Af (ofNat k) 1))))]⟩):=Aa (bbK 19 523261) ((fun c0 c1=>[ilt (ofNat b) (ofNat n),c0,c1,c1,c1,c1,c1,c1,c1,c1,c0,c1,Ag (ile 0 (Ae (wr .i64 (AF (wr .i64 (Af (Ae (wr .i64 (Af (ofNat z) (ofNat b))) (ofNat n)) (ofNat n))) 1)) (ofNat n))) (ilt (Ae (wr .i64 (AF (wr .i64 (Af (Ae (wr .i64 (Af (ofNat z) (ofNat b))) (ofNat n)) (ofNat n))) 1)) (ofNat n)) (ofNat n)),c1,c1,c1,Ay (f (toN (Ae (wr .i64 (AF (wr .i64 (Af (Ae (wr .i64 (Af (ofNat z) (ofNat b))) (ofNat n)) (ofNat n))) 1)) (ofNat n)))),Ag (ile 0 (Ae (wr .i64 (Af (ofNat z) (ofNat b))) (ofNat n))) (ilt (Ae (wr .i64 (Af (ofNat z) (ofNat b))) (ofNat n)) (ofNat n)),nlt (toN (Ae (wr .i64 (Af (ofNat z) (ofNat b))) (ofNat n))) n]) (ieq (ofNat n) 0) (ilt 0 (ofNat b))) (by kernel_rfl) (by simp only [h14,h16] <;> simp only [*] <;> rfl)
theorem AdZ (h0:ilt (ofNat b) (ofNat n) = false):Al (E0 L) (Ht n f) (II n f z b k g j) = some ((.ex 2),⟨(jsV 97 0 (fun _=>.und) [(0,(.sl 6 n (fun i=>eV (f i)))),(1,(.fn 52 [])),(4,(.ref 0)),(5,(nV n)),(8,(.ref 1))]),[r3Z,.row 3 1 n (fun i=>iV (g i))]⟩):=Aa [false] [ilt (ofNat b) (ofNat n)] (by kernel_rfl) (by simp only [h0] <;> rfl)
end
def VC (n:Nat) (f:Nat->E6) (z:Nat):St:=⟨(jsV 97 0 (fun _=>.und) [(0,(.sl 6 n (fun i=>eV (f i)))),(1,(.fn 52 [])),(4,(.ref 0)),(5,(nV n)),(6,(nV z)),(8,(.ref 1)),(9,(iV 0)),(35,(nV n)),(36,(.ref 1)),(37,(nV n)),(38,(iV 0))]),[r3Z,.row 3 1 n (fun _=>iV 0)]⟩
def IX (n:Nat) (f:Nat->E6):Lp:=⟨(bmK 97 0 [4,8,12,13,70,71]),4,bmK 97 0 [13],4,n+1⟩
def JY (n:Nat) (f:Nat->E6) (b r:Nat) (g s o:Nat->Int) (j:Nat->V):St:=⟨(jsV 97 0 j [(4,.ref 0),(8,.ref 1),(12,.ref 2),(13,.ref 3),(70,nV n),(71,nV b)]),[.row 3 1 0 (fun _=>.und),.row 3 1 n (fun i=>iV (g i)),.row 3 1 r (fun i=>iV (s i)),.row 3 1 n (fun i=>iV (o i))]⟩
def NS (n:Nat) (f:Nat->E6) (b r:Nat) (g s o:Nat->Int):Ex × St:=(.ex 4,⟨(jsV 97 0 (fun _=>.und) [(13,.ref 3)]),[.row 3 1 0 (fun _=>.und),.row 3 1 n (fun i=>iV (g i)),.row 3 1 r (fun i=>iV (s i)),.row 3 1 n (fun i=>iV (o i))]⟩)
noncomputable def Fw (L:LT):St->T (Ex × St):=fun st=>AE tab ⟨Ao tb53,L,Gl⟩ (Az Try.f53 4) 4 st
section
variable (L:LT) (n:Nat) (f:Nat->E6) (b r:Nat) (g s o:Nat->Int)  (j:Nat->V)
include L n f b r g s o j
theorem AdN (h0:ilt (ofNat b) (ofNat n) = true) (h13:ile 0 (ofNat b) = true) (h1:nlt b n = true) (h2:BL r = true) (h3:ilt (Hz r s (g b)) 0 = false):Al (Fw L) (IX n f) (JY n f b r g s o j) = some (.nm,⟨(jsV 97 0 (fun _=>.und) [(4,(.ref 0)),(8,(.ref 1)),(12,(.ref 2)),(13,(.ref 3)),(70,(nV n)),(71,(iV (wr .i64 (Af (ofNat b) 1))))]),[r3Z,.row 3 1 n (fun i=>iV (g i)),.row 3 1 r (fun i=>iV (s i)),.row 3 1 n (Bs (fun i=>iV (o i)) b (iV (Hz r s (g b))))]⟩):=Aa (bbK 8 223) ((fun c0 c1=>[ilt (ofNat b) (ofNat n),c0,c1,Ai r (fun _=>true),BL r,ilt (Hz r s (g b)) 0,c0,c1]) (Ag (ile 0 (ofNat b)) (ilt (ofNat b) (ofNat n))) (nlt b n)) (by kernel_rfl) (by simp only [*,Ar] <;> rfl)
theorem AdP (h0:ilt (ofNat b) (ofNat n) = true) (h13:ile 0 (ofNat b) = true) (h1:nlt b n = true) (h2:BL r = true) (h3:ilt (Hz r s (g b)) 0 = true) (h14:AN r 1 8 = true):Al (Fw L) (IX n f) (JY n f b r g s o j) = some (.nm,⟨(jsV 97 0 (fun _=>.und) [(4,(.ref 0)),(8,(.ref 1)),(12,(.ref 2)),(13,(.ref 3)),(70,(nV n)),(71,(iV (wr .i64 (Af (ofNat b) 1))))]),[r3Z,.row 3 1 n (fun i=>iV (g i)),.row 3 1 (Bj r 1) (AO r (fun i=>iV (s i)) (iV (g b))),.row 3 1 n (Bs (fun i=>iV (o i)) b (nV r))]⟩):=Aa (bbK 11 2047) ((fun c0 c1=>[ilt (ofNat b) (ofNat n),c0,c1,Ai r (fun _=>true),BL r,ilt (Hz r s (g b)) 0,c0,c1,AN r 1 8,c0,c1]) (Ag (ile 0 (ofNat b)) (ilt (ofNat b) (ofNat n))) (nlt b n)) (by kernel_rfl) (by simp only [*,Ar] <;> rfl)
theorem AdR (h0:ilt (ofNat b) (ofNat n) = false):Al (Fw L) (IX n f) (JY n f b r g s o j) = some ((.ex 4),⟨(jsV 97 0 (fun _=>.und) [(13,(.ref 3))]),[r3Z,.row 3 1 n (fun i=>iV (g i)),.row 3 1 r (fun i=>iV (s i)),.row 3 1 n (fun i=>iV (o i))]⟩):=Aa [false] [ilt (ofNat b) (ofNat n)] (by kernel_rfl) (by simp only [h0] <;> rfl)
end
def Vr (n:Nat) (f:Nat->E6) (z:Nat) (g:Nat->Int):St:=⟨(jsV 97 0 (fun _=>.und) [(0,(.sl 6 n (fun i=>eV (f i)))),(1,(.fn 52 [])),(4,(.ref 0)),(5,(nV n)),(8,(.ref 1)),(12,(.ref 2)),(13,(.ref 3)),(68,(nV n)),(69,(.ref 3)),(70,(nV n)),(71,(iV 0))]),[r3Z,.row 3 1 n (fun i=>iV (g i)),r3Z,.row 3 1 n (fun _=>iV 0)]⟩
noncomputable abbrev Lb (L:LT) (p0:PT) (p2:PT) (p4:PT) (n:Nat) (f:Nat->E6) (z:Nat) (g:Nat->Int) (r:Nat) (gg:Nat->Int) (ss:Nat->Int) (o:Nat->Int):LT:=onP 0 p0 (Ud n f z) (onP 2 p2 (NU n f z 0 0 g) (onP 4 p4 (NS n f 0 r gg ss o) L))
theorem Agc (L:LT) (p0:PT) (p2:PT) (p4:PT) (n:Nat) (f:Nat->E6) (z:Nat) (g:Nat->Int) (r:Nat) (gg ss o:Nat->Int) (h0:BO 8 (ofNat n) (ofNat n) = true) (hp0:p0 (Jo (Lb L p0 p2 p4 n f z g r gg ss o)) (OM n f 0 (Acx n f )) = true) (hp2:p2 (E0 (Lb L p0 p2 p4 n f z g r gg ss o)) (VC n f z) = true) (hp4:p4 (Fw (Lb L p0 p2 p4 n f z g r gg ss o)) (Vr n f z g) = true):(As (Aj tab ⟨Ao tb53,onP 0 p0 (Ud n f z) (onP 2 p2 (NU n f z 0 0 g) (onP 4 p4 (NS n f 0 r gg ss o) L)),Gl⟩ Try.f53 [.sl 6 n fun i=>eV (f i),.fn 52 []] [])).sem = some ((.ref 0),[.row 3 1 n (fun i=>iV (o i))]):=Aa [true,true,true,true,true] [p0 (Jo (Lb L p0 p2 p4 n f z g r gg ss o)) (OM n f 0 (Acx n f )),BO 8 (ofNat n) (ofNat n),p2 (E0 (Lb L p0 p2 p4 n f z g r gg ss o)) (VC n f z),BO 8 (ofNat n) (ofNat n),p4 (Fw (Lb L p0 p2 p4 n f z g r gg ss o)) (Vr n f z g)] (by kernel_rfl) (by simp only [hp0,hp2,hp4] <;> simp only [h0] <;> rfl)
def Pi (n:Nat) (f:Nat->E6):Lp:=⟨(bmK 97 0 [0,1,4,5,6,18,19]),1,bmK 97 0 [0,1,4,5,6],1,n+1⟩
def OL (n:Nat) (f:Nat->E6) (b:Nat) (j:Nat->V):St:=⟨(jsV 97 0 j [(0,.sl 6 n fun i=>eV (f i)),(1,.fn 54 []),(4,.ref 0),(5,nV n),(6,iV 0),(18,nV n),(19,nV b)]),[.row 3 1 0 (fun _=>.und)]⟩
def Uc (n:Nat) (f:Nat->E6) (b:Nat):Ex × St:=(.ex 0,⟨(jsV 97 0 (fun _=>.und) [(0,.sl 6 n fun i=>eV (f i)),(1,.fn 54 []),(4,.ref 0),(5,nV n),(6,nV b)]),[.row 3 1 0 (fun _=>.und)]⟩)
noncomputable def Jn (L:LT):St->T (Ex × St):=fun st=>AE tab ⟨Ao tb53,L,Gl⟩ (Az Try.f53 0) 0 st
section
variable (L:LT) (n:Nat) (f:Nat->E6) (b:Nat)  (j:Nat->V)
include L n f b j
theorem Aec (h0:ilt (ofNat b) (ofNat n) = true) (h1:ieq (ofNat n) 0 = false) (h13:Ag (ile 0 (Ae (wr .i64 (AF (wr .i64 (Af (ofNat b) (ofNat n))) 1)) (ofNat n))) (ilt (Ae (wr .i64 (AF (wr .i64 (Af (ofNat b) (ofNat n))) 1)) (ofNat n)) (ofNat n)) = true) (h2:Au (f (toN (Ae (wr .i64 (AF (wr .i64 (Af (ofNat b) (ofNat n))) 1)) (ofNat n)))) = false):Al (Jn L) (Pi n f) (OL n f b j) = some (.nm,⟨(jsV 97 0 (fun _=>.und) [(0,(.sl 6 n (fun i=>eV (f i)))),(1,(.fn 54 [])),(4,(.ref 0)),(5,(nV n)),(6,(iV 0)),(18,(nV n)),(19,(iV (wr .i64 (Af (ofNat b) 1))))]),[r3Z]⟩):=Aa [true,false,true,false] [ilt (ofNat b) (ofNat n),ieq (ofNat n) 0,Ag (ile 0 (Ae (wr .i64 (AF (wr .i64 (Af (ofNat b) (ofNat n))) 1)) (ofNat n))) (ilt (Ae (wr .i64 (AF (wr .i64 (Af (ofNat b) (ofNat n))) 1)) (ofNat n)) (ofNat n)),Au (f (toN (Ae (wr .i64 (AF (wr .i64 (Af (ofNat b) (ofNat n))) 1)) (ofNat n))))] (by kernel_rfl) (by simp only [h13] <;> simp only [*] <;> rfl)
theorem Aea (h0:ilt (ofNat b) (ofNat n) = true) (h1:ieq (ofNat n) 0 = false) (h13:Ag (ile 0 (Ae (wr .i64 (AF (wr .i64 (Af (ofNat b) (ofNat n))) 1)) (ofNat n))) (ilt (Ae (wr .i64 (AF (wr .i64 (Af (ofNat b) (ofNat n))) 1)) (ofNat n)) (ofNat n)) = true) (h2:Au (f (toN (Ae (wr .i64 (AF (wr .i64 (Af (ofNat b) (ofNat n))) 1)) (ofNat n)))) = true):Al (Jn L) (Pi n f) (OL n f b j) = some ((.ex 0),⟨(jsV 97 0 (fun _=>.und) [(0,(.sl 6 n (fun i=>eV (f i)))),(1,(.fn 54 [])),(4,(.ref 0)),(5,(nV n)),(6,(nV b))]),[r3Z]⟩):=Aa [true,false,true,true] [ilt (ofNat b) (ofNat n),ieq (ofNat n) 0,Ag (ile 0 (Ae (wr .i64 (AF (wr .i64 (Af (ofNat b) (ofNat n))) 1)) (ofNat n))) (ilt (Ae (wr .i64 (AF (wr .i64 (Af (ofNat b) (ofNat n))) 1)) (ofNat n)) (ofNat n)),Au (f (toN (Ae (wr .i64 (AF (wr .i64 (Af (ofNat b) (ofNat n))) 1)) (ofNat n))))] (by kernel_rfl) (by simp only [h13] <;> simp only [*] <;> rfl)
theorem Aee (h0:ilt (ofNat b) (ofNat n) = false):Al (Jn L) (Pi n f) (OL n f b j) = some ((.ex 0),⟨(jsV 97 0 (fun _=>.und) [(0,(.sl 6 n (fun i=>eV (f i)))),(1,(.fn 54 [])),(4,(.ref 0)),(5,(nV n)),(6,(iV 0))]),[r3Z]⟩):=Aa [false] [ilt (ofNat b) (ofNat n)] (by kernel_rfl) (by simp only [h0] <;> rfl)
end
def Acw (n:Nat) (f:Nat->E6) :Nat->V:=lkV A8 [(16,(.sl 6 n (fun i=>eV (f i)))),(17,(nV n))]
def Hs (n:Nat) (f:Nat->E6):Lp:=⟨(bmK 97 0 [0,1,4,5,6,8,9,37,38]),2,bmK 97 0 [0,1,4,5,8],2,n+1⟩
def IH (n:Nat) (f:Nat->E6) (z b k:Nat) (g:Nat->Int) (j:Nat->V):St:=⟨(jsV 97 0 j [(0,.sl 6 n fun i=>eV (f i)),(1,.fn 54 []),(4,.ref 0),(5,nV n),(6,nV z),(8,.ref 1),(9,nV k),(37,nV n),(38,nV b)]),[.row 3 1 0 (fun _=>.und),.row 3 1 n (fun i=>iV (g i))]⟩
def NT (n:Nat) (f:Nat->E6) (z b k:Nat) (g:Nat->Int):Ex × St:=(.ex 2,⟨(jsV 97 0 (fun _=>.und) [(0,.sl 6 n fun i=>eV (f i)),(1,.fn 54 []),(4,.ref 0),(5,nV n),(8,.ref 1)]),[.row 3 1 0 (fun _=>.und),.row 3 1 n (fun i=>iV (g i))]⟩)
noncomputable def Ez (L:LT):St->T (Ex × St):=fun st=>AE tab ⟨Ao tb53,L,Gl⟩ (Az Try.f53 2) 2 st
section
variable (L:LT) (n:Nat) (f:Nat->E6) (z b k:Nat) (g:Nat->Int)  (j:Nat->V)
include L n f z b k g j
theorem AdS (h0:ilt (ofNat b) (ofNat n) = true) (h1:ieq (ofNat n) 0 = false) (h2:ilt 0 (ofNat b) = false) (h13:Ag (ile 0 (Ae (wr .i64 (Af (ofNat z) (ofNat b))) (ofNat n))) (ilt (Ae (wr .i64 (Af (ofNat z) (ofNat b))) (ofNat n)) (ofNat n)) = true) (h14:nlt (toN (Ae (wr .i64 (Af (ofNat z) (ofNat b))) (ofNat n))) n = true):Al (Ez L) (Hs n f) (IH n f z b k g j) = some (.nm,⟨(jsV 97 0 (fun _=>.und) [(0,(.sl 6 n (fun i=>eV (f i)))),(1,(.fn 54 [])),(4,(.ref 0)),(5,(nV n)),(6,(nV z)),(8,(.ref 1)),(9,(nV k)),(37,(nV n)),(38,(iV (wr .i64 (Af (ofNat b) 1))))]),[r3Z,.row 3 1 n (Bs (fun i=>iV (g i)) (toN (Ae (wr .i64 (Af (ofNat z) (ofNat b))) (ofNat n))) (nV k))]⟩):=Aa (bbK 17 98305) ((fun c0=>[ilt (ofNat b) (ofNat n),ieq (ofNat n) 0,c0,c0,c0,c0,c0,c0,c0,c0,c0,c0,c0,c0,false,Ag (ile 0 (Ae (wr .i64 (Af (ofNat z) (ofNat b))) (ofNat n))) (ilt (Ae (wr .i64 (Af (ofNat z) (ofNat b))) (ofNat n)) (ofNat n)),nlt (toN (Ae (wr .i64 (Af (ofNat z) (ofNat b))) (ofNat n))) n]) (ilt 0 (ofNat b))) (by kernel_rfl) (by simp only [h13] <;> simp only [*] <;> rfl)
theorem AdW (h0:ilt (ofNat b) (ofNat n) = true) (h1:ieq (ofNat n) 0 = false) (h2:ilt 0 (ofNat b) = true) (h14:Ag (ile 0 (Ae (wr .i64 (AF (wr .i64 (Af (Ae (wr .i64 (Af (ofNat z) (ofNat b))) (ofNat n)) (ofNat n))) 1)) (ofNat n))) (ilt (Ae (wr .i64 (AF (wr .i64 (Af (Ae (wr .i64 (Af (ofNat z) (ofNat b))) (ofNat n)) (ofNat n))) 1)) (ofNat n)) (ofNat n)) = true) (h3:Au (f (toN (Ae (wr .i64 (AF (wr .i64 (Af (Ae (wr .i64 (Af (ofNat z) (ofNat b))) (ofNat n)) (ofNat n))) 1)) (ofNat n)))) = false) (h16:Ag (ile 0 (Ae (wr .i64 (Af (ofNat z) (ofNat b))) (ofNat n))) (ilt (Ae (wr .i64 (Af (ofNat z) (ofNat b))) (ofNat n)) (ofNat n)) = true) (h17:nlt (toN (Ae (wr .i64 (Af (ofNat z) (ofNat b))) (ofNat n))) n = true):Al (Ez L) (Hs n f) (IH n f z b k g j) = some (.nm,⟨(jsV 97 0 (fun _=>.und) [(0,(.sl 6 n (fun i=>eV (f i)))),(1,(.fn 54 [])),(4,(.ref 0)),(5,(nV n)),(6,(nV z)),(8,(.ref 1)),(9,(nV k)),(37,(nV n)),(38,(iV (wr .i64 (Af (ofNat b) 1))))]),[r3Z,.row 3 1 n (Bs (fun i=>iV (g i)) (toN (Ae (wr .i64 (Af (ofNat z) (ofNat b))) (ofNat n))) (nV k))]⟩):=Aa (bbK 19 457725) ((fun c0 c1=>[ilt (ofNat b) (ofNat n),c0,c1,c1,c1,c1,c1,c1,c1,c1,c0,c1,Ag (ile 0 (Ae (wr .i64 (AF (wr .i64 (Af (Ae (wr .i64 (Af (ofNat z) (ofNat b))) (ofNat n)) (ofNat n))) 1)) (ofNat n))) (ilt (Ae (wr .i64 (AF (wr .i64 (Af (Ae (wr .i64 (Af (ofNat z) (ofNat b))) (ofNat n)) (ofNat n))) 1)) (ofNat n)) (ofNat n)),c1,c1,c1,Au (f (toN (Ae (wr .i64 (AF (wr .i64 (Af (Ae (wr .i64 (Af (ofNat z) (ofNat b))) (ofNat n)) (ofNat n))) 1)) (ofNat n)))),Ag (ile 0 (Ae (wr .i64 (Af (ofNat z) (ofNat b))) (ofNat n))) (ilt (Ae (wr .i64 (Af (ofNat z) (ofNat b))) (ofNat n)) (ofNat n)),nlt (toN (Ae (wr .i64 (Af (ofNat z) (ofNat b))) (ofNat n))) n]) (ieq (ofNat n) 0) (ilt 0 (ofNat b))) (by kernel_rfl) (by simp only [h14,h16] <;> simp only [*] <;> rfl)
theorem AdU (h0:ilt (ofNat b) (ofNat n) = true) (h1:ieq (ofNat n) 0 = false) (h2:ilt 0 (ofNat b) = true) (h14:Ag (ile 0 (Ae (wr .i64 (AF (wr .i64 (Af (Ae (wr .i64 (Af (ofNat z) (ofNat b))) (ofNat n)) (ofNat n))) 1)) (ofNat n))) (ilt (Ae (wr .i64 (AF (wr .i64 (Af (Ae (wr .i64 (Af (ofNat z) (ofNat b))) (ofNat n)) (ofNat n))) 1)) (ofNat n)) (ofNat n)) = true) (h3:Au (f (toN (Ae (wr .i64 (AF (wr .i64 (Af (Ae (wr .i64 (Af (ofNat z) (ofNat b))) (ofNat n)) (ofNat n))) 1)) (ofNat n)))) = true) (h16:Ag (ile 0 (Ae (wr .i64 (Af (ofNat z) (ofNat b))) (ofNat n))) (ilt (Ae (wr .i64 (Af (ofNat z) (ofNat b))) (ofNat n)) (ofNat n)) = true) (h17:nlt (toN (Ae (wr .i64 (Af (ofNat z) (ofNat b))) (ofNat n))) n = true):Al (Ez L) (Hs n f) (IH n f z b k g j) = some (.nm,⟨(jsV 97 0 (fun _=>.und) [(0,(.sl 6 n (fun i=>eV (f i)))),(1,(.fn 54 [])),(4,(.ref 0)),(5,(nV n)),(6,(nV z)),(8,(.ref 1)),(9,(iV (wr .i64 (Af (ofNat k) 1)))),(37,(nV n)),(38,(iV (wr .i64 (Af (ofNat b) 1))))]),[r3Z,.row 3 1 n (Bs (fun i=>iV (g i)) (toN (Ae (wr .i64 (Af (ofNat z) (ofNat b))) (ofNat n))) (iV (wr .i64 (Af (ofNat k) 1))))]⟩):=Aa (bbK 19 523261) ((fun c0 c1=>[ilt (ofNat b) (ofNat n),c0,c1,c1,c1,c1,c1,c1,c1,c1,c0,c1,Ag (ile 0 (Ae (wr .i64 (AF (wr .i64 (Af (Ae (wr .i64 (Af (ofNat z) (ofNat b))) (ofNat n)) (ofNat n))) 1)) (ofNat n))) (ilt (Ae (wr .i64 (AF (wr .i64 (Af (Ae (wr .i64 (Af (ofNat z) (ofNat b))) (ofNat n)) (ofNat n))) 1)) (ofNat n)) (ofNat n)),c1,c1,c1,Au (f (toN (Ae (wr .i64 (AF (wr .i64 (Af (Ae (wr .i64 (Af (ofNat z) (ofNat b))) (ofNat n)) (ofNat n))) 1)) (ofNat n)))),Ag (ile 0 (Ae (wr .i64 (Af (ofNat z) (ofNat b))) (ofNat n))) (ilt (Ae (wr .i64 (Af (ofNat z) (ofNat b))) (ofNat n)) (ofNat n)),nlt (toN (Ae (wr .i64 (Af (ofNat z) (ofNat b))) (ofNat n))) n]) (ieq (ofNat n) 0) (ilt 0 (ofNat b))) (by kernel_rfl) (by simp only [h14,h16] <;> simp only [*] <;> rfl)
theorem AdY (h0:ilt (ofNat b) (ofNat n) = false):Al (Ez L) (Hs n f) (IH n f z b k g j) = some ((.ex 2),⟨(jsV 97 0 (fun _=>.und) [(0,(.sl 6 n (fun i=>eV (f i)))),(1,(.fn 54 [])),(4,(.ref 0)),(5,(nV n)),(8,(.ref 1))]),[r3Z,.row 3 1 n (fun i=>iV (g i))]⟩):=Aa [false] [ilt (ofNat b) (ofNat n)] (by kernel_rfl) (by simp only [h0] <;> rfl)
end
def VB (n:Nat) (f:Nat->E6) (z:Nat):St:=⟨(jsV 97 0 (fun _=>.und) [(0,(.sl 6 n (fun i=>eV (f i)))),(1,(.fn 54 [])),(4,(.ref 0)),(5,(nV n)),(6,(nV z)),(8,(.ref 1)),(9,(iV 0)),(35,(nV n)),(36,(.ref 1)),(37,(nV n)),(38,(iV 0))]),[r3Z,.row 3 1 n (fun _=>iV 0)]⟩
def IW (n:Nat) (f:Nat->E6):Lp:=⟨(bmK 97 0 [4,8,12,13,70,71]),4,bmK 97 0 [13],4,n+1⟩
def JX (n:Nat) (f:Nat->E6) (b r:Nat) (g s o:Nat->Int) (j:Nat->V):St:=⟨(jsV 97 0 j [(4,.ref 0),(8,.ref 1),(12,.ref 2),(13,.ref 3),(70,nV n),(71,nV b)]),[.row 3 1 0 (fun _=>.und),.row 3 1 n (fun i=>iV (g i)),.row 3 1 r (fun i=>iV (s i)),.row 3 1 n (fun i=>iV (o i))]⟩
def NR (n:Nat) (f:Nat->E6) (b r:Nat) (g s o:Nat->Int):Ex × St:=(.ex 4,⟨(jsV 97 0 (fun _=>.und) [(13,.ref 3)]),[.row 3 1 0 (fun _=>.und),.row 3 1 n (fun i=>iV (g i)),.row 3 1 r (fun i=>iV (s i)),.row 3 1 n (fun i=>iV (o i))]⟩)
noncomputable def Fv (L:LT):St->T (Ex × St):=fun st=>AE tab ⟨Ao tb53,L,Gl⟩ (Az Try.f53 4) 4 st
section
variable (L:LT) (n:Nat) (f:Nat->E6) (b r:Nat) (g s o:Nat->Int)  (j:Nat->V)
include L n f b r g s o j
theorem AdM (h0:ilt (ofNat b) (ofNat n) = true) (h13:ile 0 (ofNat b) = true) (h1:nlt b n = true) (h2:BL r = true) (h3:ilt (Hz r s (g b)) 0 = false):Al (Fv L) (IW n f) (JX n f b r g s o j) = some (.nm,⟨(jsV 97 0 (fun _=>.und) [(4,(.ref 0)),(8,(.ref 1)),(12,(.ref 2)),(13,(.ref 3)),(70,(nV n)),(71,(iV (wr .i64 (Af (ofNat b) 1))))]),[r3Z,.row 3 1 n (fun i=>iV (g i)),.row 3 1 r (fun i=>iV (s i)),.row 3 1 n (Bs (fun i=>iV (o i)) b (iV (Hz r s (g b))))]⟩):=Aa (bbK 8 223) ((fun c0 c1=>[ilt (ofNat b) (ofNat n),c0,c1,Ai r (fun _=>true),BL r,ilt (Hz r s (g b)) 0,c0,c1]) (Ag (ile 0 (ofNat b)) (ilt (ofNat b) (ofNat n))) (nlt b n)) (by kernel_rfl) (by simp only [*,Ar] <;> rfl)
theorem AdO (h0:ilt (ofNat b) (ofNat n) = true) (h13:ile 0 (ofNat b) = true) (h1:nlt b n = true) (h2:BL r = true) (h3:ilt (Hz r s (g b)) 0 = true) (h14:AN r 1 8 = true):Al (Fv L) (IW n f) (JX n f b r g s o j) = some (.nm,⟨(jsV 97 0 (fun _=>.und) [(4,(.ref 0)),(8,(.ref 1)),(12,(.ref 2)),(13,(.ref 3)),(70,(nV n)),(71,(iV (wr .i64 (Af (ofNat b) 1))))]),[r3Z,.row 3 1 n (fun i=>iV (g i)),.row 3 1 (Bj r 1) (AO r (fun i=>iV (s i)) (iV (g b))),.row 3 1 n (Bs (fun i=>iV (o i)) b (nV r))]⟩):=Aa (bbK 11 2047) ((fun c0 c1=>[ilt (ofNat b) (ofNat n),c0,c1,Ai r (fun _=>true),BL r,ilt (Hz r s (g b)) 0,c0,c1,AN r 1 8,c0,c1]) (Ag (ile 0 (ofNat b)) (ilt (ofNat b) (ofNat n))) (nlt b n)) (by kernel_rfl) (by simp only [*,Ar] <;> rfl)
theorem AdQ (h0:ilt (ofNat b) (ofNat n) = false):Al (Fv L) (IW n f) (JX n f b r g s o j) = some ((.ex 4),⟨(jsV 97 0 (fun _=>.und) [(13,(.ref 3))]),[r3Z,.row 3 1 n (fun i=>iV (g i)),.row 3 1 r (fun i=>iV (s i)),.row 3 1 n (fun i=>iV (o i))]⟩):=Aa [false] [ilt (ofNat b) (ofNat n)] (by kernel_rfl) (by simp only [h0] <;> rfl)
end
def Vq (n:Nat) (f:Nat->E6) (z:Nat) (g:Nat->Int):St:=⟨(jsV 97 0 (fun _=>.und) [(0,(.sl 6 n (fun i=>eV (f i)))),(1,(.fn 54 [])),(4,(.ref 0)),(5,(nV n)),(8,(.ref 1)),(12,(.ref 2)),(13,(.ref 3)),(68,(nV n)),(69,(.ref 3)),(70,(nV n)),(71,(iV 0))]),[r3Z,.row 3 1 n (fun i=>iV (g i)),r3Z,.row 3 1 n (fun _=>iV 0)]⟩
noncomputable abbrev La (L:LT) (p0:PT) (p2:PT) (p4:PT) (n:Nat) (f:Nat->E6) (z:Nat) (g:Nat->Int) (r:Nat) (gg:Nat->Int) (ss:Nat->Int) (o:Nat->Int):LT:=onP 0 p0 (Uc n f z) (onP 2 p2 (NT n f z 0 0 g) (onP 4 p4 (NR n f 0 r gg ss o) L))
theorem Agb (L:LT) (p0:PT) (p2:PT) (p4:PT) (n:Nat) (f:Nat->E6) (z:Nat) (g:Nat->Int) (r:Nat) (gg ss o:Nat->Int) (h0:BO 8 (ofNat n) (ofNat n) = true) (hp0:p0 (Jn (La L p0 p2 p4 n f z g r gg ss o)) (OL n f 0 (Acw n f )) = true) (hp2:p2 (Ez (La L p0 p2 p4 n f z g r gg ss o)) (VB n f z) = true) (hp4:p4 (Fv (La L p0 p2 p4 n f z g r gg ss o)) (Vq n f z g) = true):(As (Aj tab ⟨Ao tb53,onP 0 p0 (Uc n f z) (onP 2 p2 (NT n f z 0 0 g) (onP 4 p4 (NR n f 0 r gg ss o) L)),Gl⟩ Try.f53 [.sl 6 n fun i=>eV (f i),.fn 54 []] [])).sem = some ((.ref 0),[.row 3 1 n (fun i=>iV (o i))]):=Aa [true,true,true,true,true] [p0 (Jn (La L p0 p2 p4 n f z g r gg ss o)) (OL n f 0 (Acw n f )),BO 8 (ofNat n) (ofNat n),p2 (Ez (La L p0 p2 p4 n f z g r gg ss o)) (VB n f z),BO 8 (ofNat n) (ofNat n),p4 (Fv (La L p0 p2 p4 n f z g r gg ss o)) (Vq n f z g)] (by kernel_rfl) (by simp only [hp0,hp2,hp4] <;> simp only [h0] <;> rfl)
theorem XG (L:LT) (n:Nat) (f:Nat->E6) (hn:n <= 4611686018427387903):∀ (e i:Nat) (j:Nat->V) (q:Nat),n = i+e->e < q->(∀ k,k < i->(fun k=>Ay (f k)) ((k+(n - 1)) % n) = false) ->
    (A7 (Jo L) (Pj n f) q (OM n f i j)).sem = some (Ud n f (Ch (fun k=>Ay (f k)) n))
  | 0,i,j,q+1,h,_,hb=>by
    have:n = i:=by omega
    subst this
    rw [Ot hb]
    exact Ac (Aef L n f n j (AA (Nat.le_refl _)))
  | e+1,i,j,q+1,h,h2,hb=>by
    have hl:i < n:=by omega
    have hx:=Jp (a:=i) (n:=n) (by omega) (by omega)
    have hin:Ag (ile 0 (Ae (wr .i64 (AF (wr .i64 (Af (ofNat i) (ofNat n))) 1)) (ofNat n))) (ilt (Ae (wr .i64 (AF (wr .i64 (Af (ofNat i) (ofNat n))) 1)) (ofNat n)) (ofNat n)) = true:=by
      rw [hx]
      exact Ax (Nat.mod_lt _ (by omega))
    cases hp:Ay (f ((i+(n - 1)) % n)) with
    | true =>
      rw [SP (p:=fun k=>Ay (f k)) hl hp hb]
      exact Ac (Aeb L n f i j (ofNat_lt hl) (F7 (by omega)) hin (by rw [hx]; exact hp))
    | false =>
      rw [Ac (Aed L n f i j (ofNat_lt hl) (F7 (by omega)) hin (by rw [hx]; exact hp)),Av,Aq hl (by omega)]
      refine XG L n f hn e (i+1) (fun _=>.und) q (by omega) (by omega) fun k hk=>?_
      by_cases hki:k = i
      · rw [hki]; exact hp
      · exact hb k (by omega)
theorem U8 (L:LT) (n:Nat) (f:Nat->E6) (hn:n <= 4611686018427387903) (z:Nat) (hz:z < n):∀ (e b:Nat) (j:Nat->V) (q:Nat),n = b+e->e < q ->
    (A7 (E0 L) (Ht n f) q (II n f z b (Ak (DX (fun k=>Ay (f k)) n z) (b - 1)) (gN (fun k=>Ay (f k)) n z b) j)).sem = some (NU n f z 0 0 (gN (fun k=>Ay (f k)) n z n))
  | 0,b,j,q+1,h,_=>by
    have:n = b:=by omega
    subst this
    exact Ac (AdZ L n f z n _ _ j (AA (Nat.le_refl _)))
  | e+1,b,j,q+1,h,h2=>by
    have hl:b < n:=by omega
    have hI:Ae (wr .i64 (Af (ofNat z) (ofNat b))) (ofNat n) = ofNat ((z+b) % n):=by rw [DD (by omega),CA]
    have hlt:(z+b) % n < n:=Nat.mod_lt _ (by omega)
    have hin:Ag (ile 0 (Ae (wr .i64 (Af (ofNat z) (ofNat b))) (ofNat n))) (ilt (Ae (wr .i64 (Af (ofNat z) (ofNat b))) (ofNat n)) (ofNat n)) = true:=by
      rw [hI]
      exact Ax hlt
    have hnl:nlt (toN (Ae (wr .i64 (Af (ofNat z) (ofNat b))) (ofNat n))) n = true:=by
      rw [hI]
      exact decide_eq_true hlt
    have next:=U8 L n f hn z hz e (b+1) (fun _=>.und) q (by omega) (by omega)
    rw [show b+1 - 1 = b by omega] at next
    cases b with
    | zero =>
      rw [Ac (AdT L n f z 0 _ _ j (ofNat_lt hl) (F7 (by omega)) rfl hin hnl),Av,hI,Aq hl (by omega),show toN (ofNat ((z+0) % n)) = (z+0) % n from rfl,Co]
      have hs:=Mz (p:=fun k=>Ay (f k)) hz hl
      rw [<- hs] at next
      exact next
    | succ b =>
      have hx:Ae (wr .i64 (AF (wr .i64 (Af (Ae (wr .i64 (Af (ofNat z) (ofNat (b+1)))) (ofNat n)) (ofNat n))) 1)) (ofNat n) = ofNat ((z+b) % n):=by
        rw [hI,Jp (by omega) (by omega),P6 hz (by omega)]
      have hxin:Ag (ile 0 (Ae (wr .i64 (AF (wr .i64 (Af (Ae (wr .i64 (Af (ofNat z) (ofNat (b+1)))) (ofNat n)) (ofNat n))) 1)) (ofNat n))) (ilt (Ae (wr .i64 (AF (wr .i64 (Af (Ae (wr .i64 (Af (ofNat z) (ofNat (b+1)))) (ofNat n)) (ofNat n))) 1)) (ofNat n)) (ofNat n)) = true:=by
        rw [hx]
        exact Ax (Nat.mod_lt _ (by omega))
      have hs:=Mz (p:=fun k=>Ay (f k)) hz hl
      have hc:=Be (DX (fun k=>Ay (f k)) n z) b
      have h0:ilt 0 (ofNat (b+1)) = true:=by rw [show (0:Int) = ofNat 0 from rfl,CB]; simp
      rw [show b+1 - 1 = b by omega]
      cases hp:Ay (f ((z+b) % n)) with
      | true =>
        rw [Ac (AdV L n f z (b+1) _ _ j (ofNat_lt hl) (F7 (by omega)) h0 hxin (by rw [hx]; exact hp) hin hnl),Av,hI,Aq hl (by omega),show toN (ofNat ((z+(b+1)) % n)) = (z+(b+1)) % n from rfl,Aq (show Ak (DX (fun k=>Ay (f k)) n z) b < n by omega) (by omega),Co,<- Bg (p:=DX (fun k=>Ay (f k)) n z) (i:=b) hp,hs]
        exact next
      | false =>
        rw [Ac (AdX L n f z (b+1) _ _ j (ofNat_lt hl) (F7 (by omega)) h0 hxin (by rw [hx]; exact hp) hin hnl),Av,hI,Aq hl (by omega),show toN (ofNat ((z+(b+1)) % n)) = (z+(b+1)) % n from rfl,Co,<- Bv (p:=DX (fun k=>Ay (f k)) n z) (i:=b) hp,hs]
        exact next
theorem U6 (L:LT) (n:Nat) (f:Nat->E6) (p:Nat->Bool) (hn:n * 8 <= 140737488355328) (z:Nat) (g:Nat->Int) (hg:∀ i,i < n->g i = ofNat (snN p n z (Bd p n i))):∀ (e b:Nat) (j:Nat->V) (q:Nat),n = b+e->e < q ->
    (A7 (Fw L) (IX n f) q (JY n f b (rN p n b) g (ED p n z b) (TF p n b) j)).sem = some (NS n f 0 (rN p n n) g (ED p n z n) (A0 p n))
  | 0,b,j,q+1,h,_=>by
    have:n = b:=by omega
    subst this
    rw [<- Ye p n]
    exact Ac (AdR L n f n _ _ _ _ j (AA (Nat.le_refl _)))
  | e+1,b,j,q+1,h,h2=>by
    have hl:b < n:=by omega
    have hr:=R5 p n b
    have h8:BL (rN p n b) = true:=by
      unfold BL
      simp
      omega
    have hnl:nlt b n = true:=by simpa [nlt] using hl
    have next:=U6 L n f p hn z g hg e (b+1) (fun _=>.und) q (by omega) (by omega)
    rcases Nat.lt_or_ge (Bd p n b) (rN p n b) with hc | hc
    · have hi:=Rx (z:=z) hl hc
      rw [<- hg b hl] at hi
      obtain ⟨e1,e2⟩:=MW (z:=z) hc
      rw [Ac (AdN L n f b _ g _ _ j (ofNat_lt hl) (AH b) hnl h8 (by rw [hi]; simp [ilt])),Av,Aq hl (by omega),hi,Co,IV hl]
      rw [e1,e2] at next
      exact next
    · have hc:Bd p n b = rN p n b:=Nat.le_antisymm (Kh p n b hl) hc
      have hi:=Ry (z:=z) hl hc
      rw [<- hg b hl] at hi
      obtain ⟨e1,e2⟩:=OP (z:=z) hc
      rw [<- hg b hl] at e1
      rw [Ac (AdP L n f b _ g _ _ j (ofNat_lt hl) (AH b) hnl h8 (by rw [hi]; rfl) (C6 (by omega))),Av,Aq hl (by omega),e1,Co,<- hc,IV hl]
      rw [e2,<- hc] at next
      exact next
def Us:List (Nat × List (Nat × V)):=[(4,[(2,iV 0)])]
def Qg (n:Nat) (f:Nat->E6):List (Nat × Lp):=[(0,Pj n f),(2,Ht n f),(4,IX n f)]
theorem Ab5 (n:Nat) (f:Nat->E6) (z:Nat) (g:Nat->Int):CT (Vr n f z g) [(2,iV 0)] = JY n f 0 0 g (fun _=>0) (fun _=>0) (fun i=>nth (Vr n f z g).t i):=by kernel_rfl
theorem AfK (n:Nat) (f:Nat->E6) (z:Nat):VC n f z = II n f z 0 0 (fun _=>0) (fun i=>nth (VC n f z).t i):=by kernel_rfl
theorem ZL (n:Nat) (f:Nat->E6) (hp:0 < n) (h8:n * 8 <= 140737488355328) (hm:BO 8 (ofNat n) (ofNat n) = true) :
    (As (Aj tab (cxZ Gl tb53 Us (Qg n f)) Try.f53 [A2 n f,.fn 52 []] [])).sem = some (.ref 0,[.row 3 1 n fun k=>iV (A0 (fun k=>Ay (f k)) n k)]):=by
  have hL:=DS Us (Qg n f)
  have hz:=SO (fun k=>Ay (f k)) hp
  have hb:=Oq (fun k=>Ay (f k)) hp
  refine A3 (Aw (Aw (Aw hL hL) hL) hL) _ (Agc _ _ _ _ n f (Ch (fun k=>Ay (f k)) n) (gN (fun k=>Ay (f k)) n (Ch (fun k=>Ay (f k)) n) n) (rN (fun k=>Ay (f k)) n n) (gN (fun k=>Ay (f k)) n (Ch (fun k=>Ay (f k)) n) n) (ED (fun k=>Ay (f k)) n (Ch (fun k=>Ay (f k)) n) n) (A0 (fun k=>Ay (f k)) n) hm
    (An ?_) (An ?_) (An ?_))
  · show (A7 _ (Pj n f) (n+1) _).sem = _
    exact XG _ n f (by omega) n 0 _ (n+1) (by omega) (by omega) (fun k hk=>absurd hk (Nat.not_lt_zero _))
  · show (A7 _ (Ht n f) (n+1) _).sem = _
    rw [AfK]
    have h:=fun L j=>U8 L n f (by omega) _ hz n 0 j (n+1) (by omega) (by omega)
    simp only [AiC] at h
    exact h _ _
  · show (A7 _ (IX n f) (n+1) (CT _ [(2,iV 0)])).sem = _
    rw [Ab5]
    exact U6 _ n f (fun k=>Ay (f k)) h8 (Ch (fun k=>Ay (f k)) n) _ (fun i hi=>YO hb hi) n 0 _ (n+1) (by omega) (by omega)
theorem XF (L:LT) (n:Nat) (f:Nat->E6) (hn:n <= 4611686018427387903):∀ (e i:Nat) (j:Nat->V) (q:Nat),n = i+e->e < q->(∀ k,k < i->(fun k=>Au (f k)) ((k+(n - 1)) % n) = false) ->
    (A7 (Jn L) (Pi n f) q (OL n f i j)).sem = some (Uc n f (Ch (fun k=>Au (f k)) n))
  | 0,i,j,q+1,h,_,hb=>by
    have:n = i:=by omega
    subst this
    rw [Ot hb]
    exact Ac (Aee L n f n j (AA (Nat.le_refl _)))
  | e+1,i,j,q+1,h,h2,hb=>by
    have hl:i < n:=by omega
    have hx:=Jp (a:=i) (n:=n) (by omega) (by omega)
    have hin:Ag (ile 0 (Ae (wr .i64 (AF (wr .i64 (Af (ofNat i) (ofNat n))) 1)) (ofNat n))) (ilt (Ae (wr .i64 (AF (wr .i64 (Af (ofNat i) (ofNat n))) 1)) (ofNat n)) (ofNat n)) = true:=by
      rw [hx]
      exact Ax (Nat.mod_lt _ (by omega))
    cases hp:Au (f ((i+(n - 1)) % n)) with
    | true =>
      rw [SP (p:=fun k=>Au (f k)) hl hp hb]
      exact Ac (Aea L n f i j (ofNat_lt hl) (F7 (by omega)) hin (by rw [hx]; exact hp))
    | false =>
      rw [Ac (Aec L n f i j (ofNat_lt hl) (F7 (by omega)) hin (by rw [hx]; exact hp)),Av,Aq hl (by omega)]
      refine XF L n f hn e (i+1) (fun _=>.und) q (by omega) (by omega) fun k hk=>?_
      by_cases hki:k = i
      · rw [hki]; exact hp
      · exact hb k (by omega)
theorem U7 (L:LT) (n:Nat) (f:Nat->E6) (hn:n <= 4611686018427387903) (z:Nat) (hz:z < n):∀ (e b:Nat) (j:Nat->V) (q:Nat),n = b+e->e < q ->
    (A7 (Ez L) (Hs n f) q (IH n f z b (Ak (DX (fun k=>Au (f k)) n z) (b - 1)) (gN (fun k=>Au (f k)) n z b) j)).sem = some (NT n f z 0 0 (gN (fun k=>Au (f k)) n z n))
  | 0,b,j,q+1,h,_=>by
    have:n = b:=by omega
    subst this
    exact Ac (AdY L n f z n _ _ j (AA (Nat.le_refl _)))
  | e+1,b,j,q+1,h,h2=>by
    have hl:b < n:=by omega
    have hI:Ae (wr .i64 (Af (ofNat z) (ofNat b))) (ofNat n) = ofNat ((z+b) % n):=by rw [DD (by omega),CA]
    have hlt:(z+b) % n < n:=Nat.mod_lt _ (by omega)
    have hin:Ag (ile 0 (Ae (wr .i64 (Af (ofNat z) (ofNat b))) (ofNat n))) (ilt (Ae (wr .i64 (Af (ofNat z) (ofNat b))) (ofNat n)) (ofNat n)) = true:=by
      rw [hI]
      exact Ax hlt
    have hnl:nlt (toN (Ae (wr .i64 (Af (ofNat z) (ofNat b))) (ofNat n))) n = true:=by
      rw [hI]
      exact decide_eq_true hlt
    have next:=U7 L n f hn z hz e (b+1) (fun _=>.und) q (by omega) (by omega)
    rw [show b+1 - 1 = b by omega] at next
    cases b with
    | zero =>
      rw [Ac (AdS L n f z 0 _ _ j (ofNat_lt hl) (F7 (by omega)) rfl hin hnl),Av,hI,Aq hl (by omega),show toN (ofNat ((z+0) % n)) = (z+0) % n from rfl,Co]
      have hs:=Mz (p:=fun k=>Au (f k)) hz hl
      rw [<- hs] at next
      exact next
    | succ b =>
      have hx:Ae (wr .i64 (AF (wr .i64 (Af (Ae (wr .i64 (Af (ofNat z) (ofNat (b+1)))) (ofNat n)) (ofNat n))) 1)) (ofNat n) = ofNat ((z+b) % n):=by
        rw [hI,Jp (by omega) (by omega),P6 hz (by omega)]
      have hxin:Ag (ile 0 (Ae (wr .i64 (AF (wr .i64 (Af (Ae (wr .i64 (Af (ofNat z) (ofNat (b+1)))) (ofNat n)) (ofNat n))) 1)) (ofNat n))) (ilt (Ae (wr .i64 (AF (wr .i64 (Af (Ae (wr .i64 (Af (ofNat z) (ofNat (b+1)))) (ofNat n)) (ofNat n))) 1)) (ofNat n)) (ofNat n)) = true:=by
        rw [hx]
        exact Ax (Nat.mod_lt _ (by omega))
      have hs:=Mz (p:=fun k=>Au (f k)) hz hl
      have hc:=Be (DX (fun k=>Au (f k)) n z) b
      have h0:ilt 0 (ofNat (b+1)) = true:=by rw [show (0:Int) = ofNat 0 from rfl,CB]; simp
      rw [show b+1 - 1 = b by omega]
      cases hp:Au (f ((z+b) % n)) with
      | true =>
        rw [Ac (AdU L n f z (b+1) _ _ j (ofNat_lt hl) (F7 (by omega)) h0 hxin (by rw [hx]; exact hp) hin hnl),Av,hI,Aq hl (by omega),show toN (ofNat ((z+(b+1)) % n)) = (z+(b+1)) % n from rfl,Aq (show Ak (DX (fun k=>Au (f k)) n z) b < n by omega) (by omega),Co,<- Bg (p:=DX (fun k=>Au (f k)) n z) (i:=b) hp,hs]
        exact next
      | false =>
        rw [Ac (AdW L n f z (b+1) _ _ j (ofNat_lt hl) (F7 (by omega)) h0 hxin (by rw [hx]; exact hp) hin hnl),Av,hI,Aq hl (by omega),show toN (ofNat ((z+(b+1)) % n)) = (z+(b+1)) % n from rfl,Co,<- Bv (p:=DX (fun k=>Au (f k)) n z) (i:=b) hp,hs]
        exact next
theorem U5 (L:LT) (n:Nat) (f:Nat->E6) (p:Nat->Bool) (hn:n * 8 <= 140737488355328) (z:Nat) (g:Nat->Int) (hg:∀ i,i < n->g i = ofNat (snN p n z (Bd p n i))):∀ (e b:Nat) (j:Nat->V) (q:Nat),n = b+e->e < q ->
    (A7 (Fv L) (IW n f) q (JX n f b (rN p n b) g (ED p n z b) (TF p n b) j)).sem = some (NR n f 0 (rN p n n) g (ED p n z n) (A0 p n))
  | 0,b,j,q+1,h,_=>by
    have:n = b:=by omega
    subst this
    rw [<- Ye p n]
    exact Ac (AdQ L n f n _ _ _ _ j (AA (Nat.le_refl _)))
  | e+1,b,j,q+1,h,h2=>by
    have hl:b < n:=by omega
    have hr:=R5 p n b
    have h8:BL (rN p n b) = true:=by
      unfold BL
      simp
      omega
    have hnl:nlt b n = true:=by simpa [nlt] using hl
    have next:=U5 L n f p hn z g hg e (b+1) (fun _=>.und) q (by omega) (by omega)
    rcases Nat.lt_or_ge (Bd p n b) (rN p n b) with hc | hc
    · have hi:=Rx (z:=z) hl hc
      rw [<- hg b hl] at hi
      obtain ⟨e1,e2⟩:=MW (z:=z) hc
      rw [Ac (AdM L n f b _ g _ _ j (ofNat_lt hl) (AH b) hnl h8 (by rw [hi]; simp [ilt])),Av,Aq hl (by omega),hi,Co,IV hl]
      rw [e1,e2] at next
      exact next
    · have hc:Bd p n b = rN p n b:=Nat.le_antisymm (Kh p n b hl) hc
      have hi:=Ry (z:=z) hl hc
      rw [<- hg b hl] at hi
      obtain ⟨e1,e2⟩:=OP (z:=z) hc
      rw [<- hg b hl] at e1
      rw [Ac (AdO L n f b _ g _ _ j (ofNat_lt hl) (AH b) hnl h8 (by rw [hi]; rfl) (C6 (by omega))),Av,Aq hl (by omega),e1,Co,<- hc,IV hl]
      rw [e2,<- hc] at next
      exact next
def Ur:List (Nat × List (Nat × V)):=[(4,[(2,iV 0)])]
def Qf (n:Nat) (f:Nat->E6):List (Nat × Lp):=[(0,Pi n f),(2,Hs n f),(4,IW n f)]
theorem Ab4 (n:Nat) (f:Nat->E6) (z:Nat) (g:Nat->Int):CT (Vq n f z g) [(2,iV 0)] = JX n f 0 0 g (fun _=>0) (fun _=>0) (fun i=>nth (Vq n f z g).t i):=by kernel_rfl
theorem AfJ (n:Nat) (f:Nat->E6) (z:Nat):VB n f z = IH n f z 0 0 (fun _=>0) (fun i=>nth (VB n f z).t i):=by kernel_rfl
theorem ZK (n:Nat) (f:Nat->E6) (hp:0 < n) (h8:n * 8 <= 140737488355328) (hm:BO 8 (ofNat n) (ofNat n) = true) :
    (As (Aj tab (cxZ Gl tb53 Ur (Qf n f)) Try.f53 [A2 n f,.fn 54 []] [])).sem = some (.ref 0,[.row 3 1 n fun k=>iV (A0 (fun k=>Au (f k)) n k)]):=by
  have hL:=DS Ur (Qf n f)
  have hz:=SO (fun k=>Au (f k)) hp
  have hb:=Oq (fun k=>Au (f k)) hp
  refine A3 (Aw (Aw (Aw hL hL) hL) hL) _ (Agb _ _ _ _ n f (Ch (fun k=>Au (f k)) n) (gN (fun k=>Au (f k)) n (Ch (fun k=>Au (f k)) n) n) (rN (fun k=>Au (f k)) n n) (gN (fun k=>Au (f k)) n (Ch (fun k=>Au (f k)) n) n) (ED (fun k=>Au (f k)) n (Ch (fun k=>Au (f k)) n) n) (A0 (fun k=>Au (f k)) n) hm
    (An ?_) (An ?_) (An ?_))
  · show (A7 _ (Pi n f) (n+1) _).sem = _
    exact XF _ n f (by omega) n 0 _ (n+1) (by omega) (by omega) (fun k hk=>absurd hk (Nat.not_lt_zero _))
  · show (A7 _ (Hs n f) (n+1) _).sem = _
    rw [AfJ]
    have h:=fun L j=>U7 L n f (by omega) _ hz n 0 j (n+1) (by omega) (by omega)
    simp only [AiC] at h
    exact h _ _
  · show (A7 _ (IW n f) (n+1) (CT _ [(2,iV 0)])).sem = _
    rw [Ab4]
    exact U5 _ n f (fun k=>Au (f k)) h8 (Ch (fun k=>Au (f k)) n) _ (fun i hi=>YO hb hi) n 0 _ (n+1) (by omega) (by omega)
noncomputable def Af5:List V->T (V × List Blk)
  | [v,.fn g []]=>apL v fun n f=>.br (Ag (ilt 0 (ofNat n)) (Ag (BL n) (BO 8 (ofNat n) (ofNat n)))) (match Nat.beq g 52,Nat.beq g 54 with
    | true,_=>.leaf (.ref 0,[.row 3 1 n fun k=>iV (A0 (fun k=>Ay (f k)) n k)])
    | _,true=>.leaf (.ref 0,[.row 3 1 n fun k=>iV (A0 (fun k=>Au (f k)) n k)])
    | _,_=>.fail) .fail
  | _=>.fail
theorem p53:AB Try.prog Gl 53 Af5:=by
  refine A1 AQ AR Try.func53 (by kernel_rfl) (by kernel_rfl) fun vs v h' h=>?_
  unfold Af5 at h
  split at h
  · rename_i u g
    obtain ⟨n,f,ha,h1⟩:=Cj h
    obtain ⟨h8,hq⟩:=Ah h1
    have h8:ilt 0 (ofNat n) = true ∧ BL n = true ∧ BO 8 (ofNat n) (ofNat n) = true:=by simpa [Ag] using h8
    obtain ⟨h9,h8,hm⟩:=h8
    have h9:0 < n:=by rw [show (0:Int) = ofNat 0 from rfl,CB] at h9; simpa using h9
    have h8':n * 8 <= 140737488355328:=of_decide_eq_true h8
    have hA:Bw [u,.fn g []] [A2 n f,.fn g []]:=fun S w cs hv=>by
      obtain ⟨c,l,rfl,q1,q2⟩:=hv
      exact ⟨c,l,rfl,ha S w c q1,q2⟩
    cases h52:Nat.beq g 52 with
    | true =>
      rw [h52] at hq
      have he:=Nat.eq_of_beq_eq_true h52
      subst he
      have:=Ad hq
      simp only [Prod.mk.injEq] at this
      obtain ⟨rfl,rfl⟩:=this
      have hx:=JL tb53_ok Us (Qg n f) (G:=Gl)
      exact ⟨_,cxZ Gl tb53 Us (Qg n f),_,hA,rfl,hx.1,hx.2,ZL n f h9 h8' hm,A6.refl _⟩
    | false =>
      rw [h52] at hq
      cases h54:Nat.beq g 54 with
      | true =>
        rw [h54] at hq
        have he:=Nat.eq_of_beq_eq_true h54
        subst he
        have:=Ad hq
        simp only [Prod.mk.injEq] at this
        obtain ⟨rfl,rfl⟩:=this
        have hx:=JL tb53_ok Ur (Qf n f) (G:=Gl)
        exact ⟨_,cxZ Gl tb53 Ur (Qf n f),_,hA,rfl,hx.1,hx.2,ZK n f h9 h8' hm,A6.refl _⟩
      | false =>
        rw [h54] at hq
        cases hq
  · cases h
end Go.Proofs.Ytjhnfomefcngfaa.Sh
