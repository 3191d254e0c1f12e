/-
  Layer 7: the program's numbers of threads and of locations (met) are the document's parts. No conditions.
-/
import Derived.Test.YtjhnfomefcngfaaShBa
import Derived.Test.YtjhnfomefcngfaaCyR
namespace Go.Proofs.Ytjhnfomefcngfaa.Sh
open Go.Sy Ed
open Int (ofNat)
noncomputable def tb53:List (Nat × (List V->T (V × List Blk))):=[(52,BK fun e=>bV (Az e)),(54,BK fun e=>bV (Au e)),(92,TV)]
theorem tb53_ok:AF Try.prog Gl tb53:=.cons p52 <| .cons p54 <| .cons p92 .nil
theorem Bt {a n:Nat} (h:a < 2 * n):a % n = if a < n then a else a - n:=by
  split
  · rename_i h1; exact Nat.mod_eq_of_lt h1
  · rename_i h1
    have h1:n <= a:=Nat.le_of_not_lt h1
    rw [Nat.mod_eq_sub_mod h1,Nat.mod_eq_of_lt (by omega)]
theorem Af8 {n z b:Nat} (hz:z < n) (hb:b < n):posN n z ((z+b) % n) = b:=by
  unfold posN
  rw [Bt (a:=z+b) (by omega)]
  split
  · rw [Bt (by omega)]; split <;> omega
  · rw [Bt (by omega)]; split <;> omega
theorem AaY {n z i:Nat} (hz:z < n) (hi:i < n):(z+posN n z i) % n = i:=by
  unfold posN
  rw [Bt (a:=i+(n - z)) (by omega)]
  split
  · rw [Bt (by omega)]; split <;> omega
  · rw [Bt (by omega)]; split <;> omega
theorem P7 {n z b:Nat} (hz:z < n) (hb:b < n):((z+(b+1)) % n+(n - 1)) % n = (z+b) % n:=by
  rcases Nat.lt_or_ge (b+1) n with h | h
  · rw [Bt (a:=z+(b+1)) (by omega),Bt (a:=z+b) (by omega)]
    split <;> split <;> (rw [Bt (by omega)]; split <;> omega)
  · have:b+1 = n:=by omega
    rw [this,Nat.add_mod_right,Nat.mod_eq_of_lt hz]
    rw [Bt (by omega),Bt (a:=z+b) (by omega)]
    split <;> split <;> omega
theorem F2 {n:Nat} (h:0 < n):ieq (ofNat n) 0 = false:=by
  simp [ieq]
  omega
theorem Jm {a n:Nat} (hn:0 < n) (h:a+n <= 9223372036854775807):Ad (wr .i64 (As (wr .i64 (Ae (ofNat a) (ofNat n))) 1)) (ofNat n) = ofNat ((a+(n - 1)) % n):=by
  rw [D3 h]
  have:wr .i64 (As (ofNat (a+n)) 1) = ofNat (a+(n - 1)):=by
    have:ofNat (a+n) = ofNat (a+(n - 1)+1):=by congr 1; omega
    rw [this]
    unfold wr As IntKind.wrap
    simp [IntKind.bits,IntKind.signed]
    omega
  rw [this,Cy]
def Cc (p:Nat->Bool) (n:Nat):Nat:=match (List.range n).find? fun i=>p ((i+(n - 1)) % n) with
  | some z=>z
  | none=>0
theorem SU {p:Nat->Bool} {n i:Nat} (hi:i < n) (h:p ((i+(n - 1)) % n) = true) (hb:∀ k,k < i->p ((k+(n - 1)) % n) = false):Cc p n = i:=by
  unfold Cc
  have:(List.range n).find? (fun i=>p ((i+(n - 1)) % n)) = some i:=by
    rw [List.find?_range_eq_some]
    exact ⟨h,by simpa using hi,fun j hj=>by rw [hb j hj]; rfl⟩
  rw [this]
theorem Oo {p:Nat->Bool} {n:Nat} (hb:∀ k,k < n->p ((k+(n - 1)) % n) = false):Cc p n = 0:=by
  unfold Cc
  have:(List.range n).find? (fun i=>p ((i+(n - 1)) % n)) = none:=by
    rw [List.find?_eq_none]
    intro k hk
    rw [hb k (by simpa using hk)]
    simp
  rw [this]
theorem On (p:Nat->Bool) {n:Nat} (hn:0 < n):Begin p n (Cc p n):=by
  cases h:(List.range n).find? (fun i=>p ((i+(n - 1)) % n)) with
  | none =>
    have hz:Cc p n = 0:=by unfold Cc; rw [h]
    rw [hz]
    rw [List.find?_eq_none] at h
    refine .none fun k hk=>?_
    have:=h ((k+1) % n) (by simpa using Nat.mod_lt _ hn)
    rw [show ((k+1) % n+(n - 1)) % n = k by
      rw [Bt (a:=k+1) (by omega)]
      split <;> (rw [Bt (by omega)]; split <;> omega)] at this
    simpa using this
  | some z =>
    have hz:Cc p n = z:=by unfold Cc; rw [h]
    rw [hz]
    rw [List.find?_range_eq_some] at h
    obtain ⟨h1,h2,h3⟩:=h
    have h2:z < n:=by simpa using h2
    have at':∀ k,0 < k->k < n->(k+(n - 1)) % n = k - 1:=fun k h0 hk=>by
      rw [Bt (by omega)]; split <;> omega
    have at0:(0+(n - 1)) % n = n - 1:=by rw [Nat.zero_add,Nat.mod_eq_of_lt (by omega)]
    rcases Nat.eq_zero_or_pos z with h0 | h0
    · subst h0
      rw [at0] at h1
      exact .last hn h1
    · rw [at' z h0 h2] at h1
      refine .first h0 h2 h1 (fun k hk=>?_) ?_
      · have:=h3 (k+1) (by omega)
        rw [at' (k+1) (by omega) (by omega)] at this
        simpa using this
      · have:=h3 0 h0
        rw [at0] at this
        simpa using this
theorem ST (p:Nat->Bool) {n:Nat} (hn:0 < n):Cc p n < n:=by
  have h:=On p hn
  generalize Cc p n = z at h
  cases h with
  | none _=>exact hn
  | last _ _=>exact hn
  | first _ h _ _ _=>exact h
def gN (p:Nat->Bool) (n z b i:Nat):Int:=if i < n ∧ posN n z i < b then ofNat (Aj (DO p n z) (posN n z i)) else 0
theorem AiM (p:Nat->Bool) (n z:Nat):gN p n z 0 = fun _=>0:=by
  funext i
  simp [gN]
theorem Mv {p:Nat->Bool} {n z b:Nat} (hz:z < n) (hb:b < n):M7 (gN p n z b) ((z+b) % n) (ofNat (Aj (DO p n z) b)) = gN p n z (b+1):=by
  funext i
  unfold M7
  by_cases hi:i = (z+b) % n
  · subst hi
    rw [show decide ((z+b) % n = (z+b) % n) = true by simp]
    simp only [cond_true]
    unfold gN
    rw [Af8 hz hb,if_pos ⟨Nat.mod_lt _ (by omega),by omega⟩]
  · rw [show decide (i = (z+b) % n) = false by simpa using hi]
    simp only [cond_false]
    unfold gN
    by_cases hin:i < n
    · have hp:posN n z i ≠ b:=fun he=>hi (by rw [<- he,AaY hz hin])
      by_cases h1:posN n z i < b
      · rw [if_pos ⟨hin,h1⟩,if_pos ⟨hin,by omega⟩]
      · rw [if_neg (fun h=>h1 h.2),if_neg (fun h=>by have:=h.2; omega)]
    · rw [if_neg (fun h=>hin h.1),if_neg (fun h=>hin h.1)]
theorem Ze {p:Nat->Bool} {n z i:Nat} (hb:Begin p n z) (hi:i < n):gN p n z n i = ofNat (snN p n z (Ba p n i)):=by
  unfold gN
  rw [if_pos ⟨hi,show (i+(n - z)) % n < n from Nat.mod_lt _ (by omega)⟩,AaZ hb hi]
def E9 (p:Nat->Bool) (n z b i:Nat):Int:=if i < rN p n b then ofNat (snN p n z i) else 0
def TJ (p:Nat->Bool) (n b i:Nat):Int:=if i < b then A0 p n i else 0
theorem Yv (p:Nat->Bool) (n:Nat):TJ p n n = A0 p n:=by
  funext i
  unfold TJ
  split
  · rfl
  · rename_i h
    unfold A0
    rw [show decide (i < n) = false by simpa using h]
    rfl
theorem IJ {p:Nat->Bool} {n b:Nat} (hb:b < n):M7 (TJ p n b) b (ofNat (Ba p n b)) = TJ p n (b+1):=by
  funext i
  unfold M7 TJ
  by_cases hi:i = b
  · subst hi
    rw [if_pos (Nat.lt_succ_self i),Hf hb]
    simp
  · rw [show decide (i = b) = false by simpa using hi]
    simp only [cond_false]
    by_cases h1:i < b
    · rw [if_pos h1,if_pos (by omega)]
    · rw [if_neg h1,if_neg (by omega)]
theorem MQ {p:Nat->Bool} {n z b:Nat} (h:Ba p n b < rN p n b):E9 p n z (b+1) = E9 p n z b ∧ rN p n (b+1) = rN p n b:=by
  have:rN p n (b+1) = rN p n b:=by rw [rN,if_pos h]
  exact ⟨by funext i; unfold E9; rw [this],this⟩
theorem OR {p:Nat->Bool} {n z b:Nat} (h:Ba p n b = rN p n b):AK (rN p n b) (fun i=>iV (E9 p n z b i)) (iV (ofNat (snN p n z (Ba p n b)))) = (fun i=>iV (E9 p n z (b+1) i)) ∧ rN p n (b+1) = rN p n b+1:=by
  have hr:rN p n (b+1) = rN p n b+1:=by rw [rN,if_neg (by omega)]
  refine ⟨?_,hr⟩
  funext k
  rw [BH,show Nat.beq k (rN p n b) = decide (k = rN p n b) by rw [Bool.eq_iff_iff]; simp]
  unfold E9
  rw [hr]
  by_cases hk:k = rN p n b
  · rw [hk,h]; simp
  · by_cases h2:k < rN p n b
    · have:k < rN p n b+1:=by omega
      simp [hk,h2,this]
    · have:¬ k < rN p n b+1:=by omega
      simp [hk,h2,this]
theorem Rs {p:Nat->Bool} {n z b:Nat} (hb:b < n) (h:Ba p n b < rN p n b):Hq (rN p n b) (E9 p n z b) (ofNat (snN p n z (Ba p n b))) = ofNat (Ba p n b):=by
  refine Pr h ?_ fun k hk=>?_
  · unfold E9
    rw [if_pos h]
    simp [ieq]
  · unfold E9
    rw [if_pos (by omega)]
    have:=Acp p n b (by omega) _ h
    cases he:ieq (ofNat (snN p n z (Ba p n b))) (ofNat (snN p n z k)) with
    | false=>rfl
    | true =>
      have he:=Int.ofNat.inj ((beq_iff_eq (α:=Int)).1 he)
      have:=XF (p:=p) (n:=n) (z:=z) (Nat.le_of_lt hk) this he.symm
      omega
theorem Rt {p:Nat->Bool} {n z b:Nat} (hb:b < n) (h:Ba p n b = rN p n b):Hq (rN p n b) (E9 p n z b) (ofNat (snN p n z (Ba p n b))) = -1:=by
  refine Sk fun k hk=>?_
  unfold E9
  rw [if_pos hk]
  cases he:ieq (ofNat (snN p n z (Ba p n b))) (ofNat (snN p n z k)) with
  | false=>rfl
  | true =>
    have he:=Int.ofNat.inj ((beq_iff_eq (α:=Int)).1 he)
    have:=XF (p:=p) (n:=n) (z:=z) (show k <= Ba p n b by omega) (Nd (by omega)) he.symm
    omega
def Pm (n:Nat) (f:Nat->E6):Lp:=⟨(bmK 97 0 [0,1,4,5,6,18,19]),1,bmK 97 0 [0,1,4,5,6],1,n+1⟩
def OO (n:Nat) (f:Nat->E6) (b:Nat) (j:Nat->V):St:=⟨(jsV 97 0 j [(0,.sl 6 n fun i=>eV (f i)),(1,.fn 52 []),(4,.ref 0),(5,nV n),(6,iV 0),(18,nV n),(19,nV b)]),[.row 3 1 0 (fun _=>.und)]⟩
def Ul (n:Nat) (f:Nat->E6) (b:Nat):Ex × St:=(.ex 0,⟨(jsV 97 0 (fun _=>.und) [(0,.sl 6 n fun i=>eV (f i)),(1,.fn 52 []),(4,.ref 0),(5,nV n),(6,nV b)]),[.row 3 1 0 (fun _=>.und)]⟩)
noncomputable def Jl (L:LT):St->T (Ex × St):=fun st=>A9 tab ⟨Ao tb53,L,Gl⟩ (Av Try.f53 0) 0 st
section
variable (L:LT) (n:Nat) (f:Nat->E6) (b:Nat)  (j:Nat->V)
include L n f b j
theorem Aem (h0:ilt (ofNat b) (ofNat n) = true) (h1:ieq (ofNat n) 0 = false) (h13:Af (ile 0 (Ad (wr .i64 (As (wr .i64 (Ae (ofNat b) (ofNat n))) 1)) (ofNat n))) (ilt (Ad (wr .i64 (As (wr .i64 (Ae (ofNat b) (ofNat n))) 1)) (ofNat n)) (ofNat n)) = true) (h2:Az (f (toN (Ad (wr .i64 (As (wr .i64 (Ae (ofNat b) (ofNat n))) 1)) (ofNat n)))) = false):Ai (Jl L) (Pm n f) (OO n f b j) = some (.nm,⟨(jsV 97 0 (fun _=>.und) [(0,(.sl 6 n (fun i=>eV (f i)))),(1,(.fn 52 [])),(4,(.ref 0)),(5,(nV n)),(6,(iV 0)),(18,(nV n)),(19,(iV (wr .i64 (Ae (ofNat b) 1))))]),[r3Z]⟩):=Aa [true,false,true,false] [ilt (ofNat b) (ofNat n),ieq (ofNat n) 0,Af (ile 0 (Ad (wr .i64 (As (wr .i64 (Ae (ofNat b) (ofNat n))) 1)) (ofNat n))) (ilt (Ad (wr .i64 (As (wr .i64 (Ae (ofNat b) (ofNat n))) 1)) (ofNat n)) (ofNat n)),Az (f (toN (Ad (wr .i64 (As (wr .i64 (Ae (ofNat b) (ofNat n))) 1)) (ofNat n))))] (by kernel_rfl) (by simp only [h13] <;> simp only [*] <;> rfl)
theorem Aek (h0:ilt (ofNat b) (ofNat n) = true) (h1:ieq (ofNat n) 0 = false) (h13:Af (ile 0 (Ad (wr .i64 (As (wr .i64 (Ae (ofNat b) (ofNat n))) 1)) (ofNat n))) (ilt (Ad (wr .i64 (As (wr .i64 (Ae (ofNat b) (ofNat n))) 1)) (ofNat n)) (ofNat n)) = true) (h2:Az (f (toN (Ad (wr .i64 (As (wr .i64 (Ae (ofNat b) (ofNat n))) 1)) (ofNat n)))) = true):Ai (Jl L) (Pm n f) (OO n f b j) = some ((.ex 0),⟨(jsV 97 0 (fun _=>.und) [(0,(.sl 6 n (fun i=>eV (f i)))),(1,(.fn 52 [])),(4,(.ref 0)),(5,(nV n)),(6,(nV b))]),[r3Z]⟩):=Aa [true,false,true,true] [ilt (ofNat b) (ofNat n),ieq (ofNat n) 0,Af (ile 0 (Ad (wr .i64 (As (wr .i64 (Ae (ofNat b) (ofNat n))) 1)) (ofNat n))) (ilt (Ad (wr .i64 (As (wr .i64 (Ae (ofNat b) (ofNat n))) 1)) (ofNat n)) (ofNat n)),Az (f (toN (Ad (wr .i64 (As (wr .i64 (Ae (ofNat b) (ofNat n))) 1)) (ofNat n))))] (by kernel_rfl) (by simp only [h13] <;> simp only [*] <;> rfl)
theorem Aeo (h0:ilt (ofNat b) (ofNat n) = false):Ai (Jl L) (Pm n f) (OO n f b j) = some ((.ex 0),⟨(jsV 97 0 (fun _=>.und) [(0,(.sl 6 n (fun i=>eV (f i)))),(1,(.fn 52 [])),(4,(.ref 0)),(5,(nV n)),(6,(iV 0))]),[r3Z]⟩):=Aa [false] [ilt (ofNat b) (ofNat n)] (by kernel_rfl) (by simp only [h0] <;> rfl)
end
def Ac3 (n:Nat) (f:Nat->E6) :Nat->V:=lkV A7 [(16,(.sl 6 n (fun i=>eV (f i)))),(17,(nV n))]
def Hk (n:Nat) (f:Nat->E6):Lp:=⟨(bmK 97 0 [0,1,4,5,6,8,9,37,38]),2,bmK 97 0 [0,1,4,5,8],2,n+1⟩
def I7 (n:Nat) (f:Nat->E6) (z b k:Nat) (g:Nat->Int) (j:Nat->V):St:=⟨(jsV 97 0 j [(0,.sl 6 n fun i=>eV (f i)),(1,.fn 52 []),(4,.ref 0),(5,nV n),(6,nV z),(8,.ref 1),(9,nV k),(37,nV n),(38,nV b)]),[.row 3 1 0 (fun _=>.und),.row 3 1 n (fun i=>iV (g i))]⟩
def NW (n:Nat) (f:Nat->E6) (z b k:Nat) (g:Nat->Int):Ex × St:=(.ex 2,⟨(jsV 97 0 (fun _=>.und) [(0,.sl 6 n fun i=>eV (f i)),(1,.fn 52 []),(4,.ref 0),(5,nV n),(8,.ref 1)]),[.row 3 1 0 (fun _=>.und),.row 3 1 n (fun i=>iV (g i))]⟩)
noncomputable def Ew (L:LT):St->T (Ex × St):=fun st=>A9 tab ⟨Ao tb53,L,Gl⟩ (Av Try.f53 2) 2 st
section
variable (L:LT) (n:Nat) (f:Nat->E6) (z b k:Nat) (g:Nat->Int)  (j:Nat->V)
include L n f z b k g j
theorem Aec (h0:ilt (ofNat b) (ofNat n) = true) (h1:ieq (ofNat n) 0 = false) (h2:ilt 0 (ofNat b) = false) (h13:Af (ile 0 (Ad (wr .i64 (Ae (ofNat z) (ofNat b))) (ofNat n))) (ilt (Ad (wr .i64 (Ae (ofNat z) (ofNat b))) (ofNat n)) (ofNat n)) = true) (h14:nlt (toN (Ad (wr .i64 (Ae (ofNat z) (ofNat b))) (ofNat n))) n = true):Ai (Ew L) (Hk n f) (I7 n f z b k g j) = some (.nm,⟨(jsV 97 0 (fun _=>.und) [(0,(.sl 6 n (fun i=>eV (f i)))),(1,(.fn 52 [])),(4,(.ref 0)),(5,(nV n)),(6,(nV z)),(8,(.ref 1)),(9,(nV k)),(37,(nV n)),(38,(iV (wr .i64 (Ae (ofNat b) 1))))]),[r3Z,.row 3 1 n (Bl (fun i=>iV (g i)) (toN (Ad (wr .i64 (Ae (ofNat z) (ofNat b))) (ofNat n))) (nV k))]⟩):=Aa (bbK 17 98305) ((fun c0=>[ilt (ofNat b) (ofNat n),ieq (ofNat n) 0,c0,c0,c0,c0,c0,c0,c0,c0,c0,c0,c0,c0,false,Af (ile 0 (Ad (wr .i64 (Ae (ofNat z) (ofNat b))) (ofNat n))) (ilt (Ad (wr .i64 (Ae (ofNat z) (ofNat b))) (ofNat n)) (ofNat n)),nlt (toN (Ad (wr .i64 (Ae (ofNat z) (ofNat b))) (ofNat n))) n]) (ilt 0 (ofNat b))) (by kernel_rfl) (by simp only [h13] <;> simp only [*] <;> rfl)
theorem Aeg (h0:ilt (ofNat b) (ofNat n) = true) (h1:ieq (ofNat n) 0 = false) (h2:ilt 0 (ofNat b) = true) (h14:Af (ile 0 (Ad (wr .i64 (As (wr .i64 (Ae (Ad (wr .i64 (Ae (ofNat z) (ofNat b))) (ofNat n)) (ofNat n))) 1)) (ofNat n))) (ilt (Ad (wr .i64 (As (wr .i64 (Ae (Ad (wr .i64 (Ae (ofNat z) (ofNat b))) (ofNat n)) (ofNat n))) 1)) (ofNat n)) (ofNat n)) = true) (h3:Az (f (toN (Ad (wr .i64 (As (wr .i64 (Ae (Ad (wr .i64 (Ae (ofNat z) (ofNat b))) (ofNat n)) (ofNat n))) 1)) (ofNat n)))) = false) (h16:Af (ile 0 (Ad (wr .i64 (Ae (ofNat z) (ofNat b))) (ofNat n))) (ilt (Ad (wr .i64 (Ae (ofNat z) (ofNat b))) (ofNat n)) (ofNat n)) = true) (h17:nlt (toN (Ad (wr .i64 (Ae (ofNat z) (ofNat b))) (ofNat n))) n = true):Ai (Ew L) (Hk n f) (I7 n f z b k g j) = some (.nm,⟨(jsV 97 0 (fun _=>.und) [(0,(.sl 6 n (fun i=>eV (f i)))),(1,(.fn 52 [])),(4,(.ref 0)),(5,(nV n)),(6,(nV z)),(8,(.ref 1)),(9,(nV k)),(37,(nV n)),(38,(iV (wr .i64 (Ae (ofNat b) 1))))]),[r3Z,.row 3 1 n (Bl (fun i=>iV (g i)) (toN (Ad (wr .i64 (Ae (ofNat z) (ofNat b))) (ofNat n))) (nV k))]⟩):=Aa (bbK 19 457725) ((fun c0 c1=>[ilt (ofNat b) (ofNat n),c0,c1,c1,c1,c1,c1,c1,c1,c1,c0,c1,Af (ile 0 (Ad (wr .i64 (As (wr .i64 (Ae (Ad (wr .i64 (Ae (ofNat z) (ofNat b))) (ofNat n)) (ofNat n))) 1)) (ofNat n))) (ilt (Ad (wr .i64 (As (wr .i64 (Ae (Ad (wr .i64 (Ae (ofNat z) (ofNat b))) (ofNat n)) (ofNat n))) 1)) (ofNat n)) (ofNat n)),c1,c1,c1,Az (f (toN (Ad (wr .i64 (As (wr .i64 (Ae (Ad (wr .i64 (Ae (ofNat z) (ofNat b))) (ofNat n)) (ofNat n))) 1)) (ofNat n)))),Af (ile 0 (Ad (wr .i64 (Ae (ofNat z) (ofNat b))) (ofNat n))) (ilt (Ad (wr .i64 (Ae (ofNat z) (ofNat b))) (ofNat n)) (ofNat n)),nlt (toN (Ad (wr .i64 (Ae (ofNat z) (ofNat b))) (ofNat n))) n]) (ieq (ofNat n) 0) (ilt 0 (ofNat b))) (by kernel_rfl) (by simp only [h14,h16] <;> simp only [*] <;> rfl)
theorem Aee (h0:ilt (ofNat b) (ofNat n) = true) (h1:ieq (ofNat n) 0 = false) (h2:ilt 0 (ofNat b) = true) (h14:Af (ile 0 (Ad (wr .i64 (As (wr .i64 (Ae (Ad (wr .i64 (Ae (ofNat z) (ofNat b))) (ofNat n)) (ofNat n))) 1)) (ofNat n))) (ilt (Ad (wr .i64 (As (wr .i64 (Ae (Ad (wr .i64 (Ae (ofNat z) (ofNat b))) (ofNat n)) (ofNat n))) 1)) (ofNat n)) (ofNat n)) = true) (h3:Az (f (toN (Ad (wr .i64 (As (wr .i64 (Ae (Ad (wr .i64 (Ae (ofNat z) (ofNat b))) (ofNat n)) (ofNat n))) 1)) (ofNat n)))) = true) (h16:Af (ile 0 (Ad (wr .i64 (Ae (ofNat z) (ofNat b))) (ofNat n))) (ilt (Ad (wr .i64 (Ae (ofNat z) (ofNat b))) (ofNat n)) (ofNat n)) = true) (h17:nlt (toN (Ad (wr .i64 (Ae (ofNat z) (ofNat b))) (ofNat n))) n = true):Ai (Ew L) (Hk n f) (I7 n f z b k g j) = some (.nm,⟨(jsV 97 0 (fun _=>.und) [(0,(.sl 6 n (fun i=>eV (f i)))),(1,(.fn 52 [])),(4,(.ref 0)),(5,(nV n)),(6,(nV z)),(8,(.ref 1)),(9,(iV (wr .i64 (Ae (ofNat k) 1)))),(37,(nV n)),(38,(iV (wr .i64 (Ae (ofNat b) 1))))]),[r3Z,.row 3 1 n (Bl (fun i=>iV (g i)) (toN (Ad (wr .i64 (Ae (ofNat z) (ofNat b))) (ofNat n))) (iV (wr .i64 (Ae (ofNat k) 1))))]⟩):=Aa (bbK 19 523261) ((fun c0 c1=>[ilt (ofNat b) (ofNat n),c0,c1,c1,c1,c1,c1,c1,c1,c1,c0,c1,Af (ile 0 (Ad (wr .i64 (As (wr .i64 (Ae (Ad (wr .i64 (Ae (ofNat z) (ofNat b))) (ofNat n)) (ofNat n))) 1)) (ofNat n))) (ilt (Ad (wr .i64 (As (wr .i64 (Ae (Ad (wr .i64 (Ae (ofNat z) (ofNat b))) (ofNat n)) (ofNat n))) 1)) (ofNat n)) (ofNat n)),c1,c1,c1,Az (f (toN (Ad (wr .i64 (As (wr .i64 (Ae (Ad (wr .i64 (Ae (ofNat z) (ofNat b))) (ofNat n)) (ofNat n))) 1)) (ofNat n)))),Af (ile 0 (Ad (wr .i64 (Ae (ofNat z) (ofNat b))) (ofNat n))) (ilt (Ad (wr .i64 (Ae (ofNat z) (ofNat b))) (ofNat n)) (ofNat n)),nlt (toN (Ad (wr .i64 (Ae (ofNat z) (ofNat b))) (ofNat n))) n]) (ieq (ofNat n) 0) (ilt 0 (ofNat b))) (by kernel_rfl) (by simp only [h14,h16] <;> simp only [*] <;> rfl)
theorem Aei (h0:ilt (ofNat b) (ofNat n) = false):Ai (Ew L) (Hk n f) (I7 n f z b k g j) = some ((.ex 2),⟨(jsV 97 0 (fun _=>.und) [(0,(.sl 6 n (fun i=>eV (f i)))),(1,(.fn 52 [])),(4,(.ref 0)),(5,(nV n)),(8,(.ref 1))]),[r3Z,.row 3 1 n (fun i=>iV (g i))]⟩):=Aa [false] [ilt (ofNat b) (ofNat n)] (by kernel_rfl) (by simp only [h0] <;> rfl)
end
def VL (n:Nat) (f:Nat->E6) (z:Nat):St:=⟨(jsV 97 0 (fun _=>.und) [(0,(.sl 6 n (fun i=>eV (f i)))),(1,(.fn 52 [])),(4,(.ref 0)),(5,(nV n)),(6,(nV z)),(8,(.ref 1)),(9,(iV 0)),(35,(nV n)),(36,(.ref 1)),(37,(nV n)),(38,(iV 0))]),[r3Z,.row 3 1 n (fun _=>iV 0)]⟩
def IM (n:Nat) (f:Nat->E6):Lp:=⟨(bmK 97 0 [4,8,12,13,70,71]),4,bmK 97 0 [13],4,n+1⟩
def JR (n:Nat) (f:Nat->E6) (b r:Nat) (g s o:Nat->Int) (j:Nat->V):St:=⟨(jsV 97 0 j [(4,.ref 0),(8,.ref 1),(12,.ref 2),(13,.ref 3),(70,nV n),(71,nV b)]),[.row 3 1 0 (fun _=>.und),.row 3 1 n (fun i=>iV (g i)),.row 3 1 r (fun i=>iV (s i)),.row 3 1 n (fun i=>iV (o i))]⟩
def NU (n:Nat) (f:Nat->E6) (b r:Nat) (g s o:Nat->Int):Ex × St:=(.ex 4,⟨(jsV 97 0 (fun _=>.und) [(13,.ref 3)]),[.row 3 1 0 (fun _=>.und),.row 3 1 n (fun i=>iV (g i)),.row 3 1 r (fun i=>iV (s i)),.row 3 1 n (fun i=>iV (o i))]⟩)
noncomputable def Ft (L:LT):St->T (Ex × St):=fun st=>A9 tab ⟨Ao tb53,L,Gl⟩ (Av Try.f53 4) 4 st
section
variable (L:LT) (n:Nat) (f:Nat->E6) (b r:Nat) (g s o:Nat->Int)  (j:Nat->V)
include L n f b r g s o j
theorem AdW (h0:ilt (ofNat b) (ofNat n) = true) (h13:ile 0 (ofNat b) = true) (h1:nlt b n = true) (h2:Ca r = true) (h3:ilt (Hq r s (g b)) 0 = false):Ai (Ft L) (IM n f) (JR n f b r g s o j) = some (.nm,⟨(jsV 97 0 (fun _=>.und) [(4,(.ref 0)),(8,(.ref 1)),(12,(.ref 2)),(13,(.ref 3)),(70,(nV n)),(71,(iV (wr .i64 (Ae (ofNat b) 1))))]),[r3Z,.row 3 1 n (fun i=>iV (g i)),.row 3 1 r (fun i=>iV (s i)),.row 3 1 n (Bl (fun i=>iV (o i)) b (iV (Hq r s (g b))))]⟩):=Aa (bbK 8 223) ((fun c0 c1=>[ilt (ofNat b) (ofNat n),c0,c1,An r (fun _=>true),Ca r,ilt (Hq r s (g b)) 0,c0,c1]) (Af (ile 0 (ofNat b)) (ilt (ofNat b) (ofNat n))) (nlt b n)) (by kernel_rfl) (by simp only [*,Ar] <;> rfl)
theorem AdY (h0:ilt (ofNat b) (ofNat n) = true) (h13:ile 0 (ofNat b) = true) (h1:nlt b n = true) (h2:Ca r = true) (h3:ilt (Hq r s (g b)) 0 = true) (h14:Bj r 1 8 = true):Ai (Ft L) (IM n f) (JR n f b r g s o j) = some (.nm,⟨(jsV 97 0 (fun _=>.und) [(4,(.ref 0)),(8,(.ref 1)),(12,(.ref 2)),(13,(.ref 3)),(70,(nV n)),(71,(iV (wr .i64 (Ae (ofNat b) 1))))]),[r3Z,.row 3 1 n (fun i=>iV (g i)),.row 3 1 (B4 r 1) (AK r (fun i=>iV (s i)) (iV (g b))),.row 3 1 n (Bl (fun i=>iV (o i)) b (nV r))]⟩):=Aa (bbK 11 2047) ((fun c0 c1=>[ilt (ofNat b) (ofNat n),c0,c1,An r (fun _=>true),Ca r,ilt (Hq r s (g b)) 0,c0,c1,Bj r 1 8,c0,c1]) (Af (ile 0 (ofNat b)) (ilt (ofNat b) (ofNat n))) (nlt b n)) (by kernel_rfl) (by simp only [*,Ar] <;> rfl)
theorem Aea (h0:ilt (ofNat b) (ofNat n) = false):Ai (Ft L) (IM n f) (JR n f b r g s o j) = some ((.ex 4),⟨(jsV 97 0 (fun _=>.und) [(13,(.ref 3))]),[r3Z,.row 3 1 n (fun i=>iV (g i)),.row 3 1 r (fun i=>iV (s i)),.row 3 1 n (fun i=>iV (o i))]⟩):=Aa [false] [ilt (ofNat b) (ofNat n)] (by kernel_rfl) (by simp only [h0] <;> rfl)
end
def V3 (n:Nat) (f:Nat->E6) (z:Nat) (g:Nat->Int):St:=⟨(jsV 97 0 (fun _=>.und) [(0,(.sl 6 n (fun i=>eV (f i)))),(1,(.fn 52 [])),(4,(.ref 0)),(5,(nV n)),(8,(.ref 1)),(12,(.ref 2)),(13,(.ref 3)),(68,(nV n)),(69,(.ref 3)),(70,(nV n)),(71,(iV 0))]),[r3Z,.row 3 1 n (fun i=>iV (g i)),r3Z,.row 3 1 n (fun _=>iV 0)]⟩
noncomputable abbrev KY (L:LT) (p0:PT) (p2:PT) (p4:PT) (n:Nat) (f:Nat->E6) (z:Nat) (g:Nat->Int) (r:Nat) (gg:Nat->Int) (ss:Nat->Int) (o:Nat->Int):LT:=onP 0 p0 (Ul n f z) (onP 2 p2 (NW n f z 0 0 g) (onP 4 p4 (NU n f 0 r gg ss o) L))
theorem Ago (L:LT) (p0:PT) (p2:PT) (p4:PT) (n:Nat) (f:Nat->E6) (z:Nat) (g:Nat->Int) (r:Nat) (gg ss o:Nat->Int) (h0:BL 8 (ofNat n) (ofNat n) = true) (hp0:p0 (Jl (KY L p0 p2 p4 n f z g r gg ss o)) (OO n f 0 (Ac3 n f )) = true) (hp2:p2 (Ew (KY L p0 p2 p4 n f z g r gg ss o)) (VL n f z) = true) (hp4:p4 (Ft (KY L p0 p2 p4 n f z g r gg ss o)) (V3 n f z g) = true):(A1 (Al tab ⟨Ao tb53,onP 0 p0 (Ul n f z) (onP 2 p2 (NW n f z 0 0 g) (onP 4 p4 (NU n f 0 r gg ss o) L)),Gl⟩ Try.f53 [.sl 6 n fun i=>eV (f i),.fn 52 []] [])).sem = some ((.ref 0),[.row 3 1 n (fun i=>iV (o i))]):=Aa [true,true,true,true,true] [p0 (Jl (KY L p0 p2 p4 n f z g r gg ss o)) (OO n f 0 (Ac3 n f )),BL 8 (ofNat n) (ofNat n),p2 (Ew (KY L p0 p2 p4 n f z g r gg ss o)) (VL n f z),BL 8 (ofNat n) (ofNat n),p4 (Ft (KY L p0 p2 p4 n f z g r gg ss o)) (V3 n f z g)] (by kernel_rfl) (by simp only [hp0,hp2,hp4] <;> simp only [h0] <;> rfl)
def Pl (n:Nat) (f:Nat->E6):Lp:=⟨(bmK 97 0 [0,1,4,5,6,18,19]),1,bmK 97 0 [0,1,4,5,6],1,n+1⟩
def ON (n:Nat) (f:Nat->E6) (b:Nat) (j:Nat->V):St:=⟨(jsV 97 0 j [(0,.sl 6 n fun i=>eV (f i)),(1,.fn 54 []),(4,.ref 0),(5,nV n),(6,iV 0),(18,nV n),(19,nV b)]),[.row 3 1 0 (fun _=>.und)]⟩
def Uk (n:Nat) (f:Nat->E6) (b:Nat):Ex × St:=(.ex 0,⟨(jsV 97 0 (fun _=>.und) [(0,.sl 6 n fun i=>eV (f i)),(1,.fn 54 []),(4,.ref 0),(5,nV n),(6,nV b)]),[.row 3 1 0 (fun _=>.und)]⟩)
noncomputable def Jk (L:LT):St->T (Ex × St):=fun st=>A9 tab ⟨Ao tb53,L,Gl⟩ (Av Try.f53 0) 0 st
section
variable (L:LT) (n:Nat) (f:Nat->E6) (b:Nat)  (j:Nat->V)
include L n f b j
theorem Ael (h0:ilt (ofNat b) (ofNat n) = true) (h1:ieq (ofNat n) 0 = false) (h13:Af (ile 0 (Ad (wr .i64 (As (wr .i64 (Ae (ofNat b) (ofNat n))) 1)) (ofNat n))) (ilt (Ad (wr .i64 (As (wr .i64 (Ae (ofNat b) (ofNat n))) 1)) (ofNat n)) (ofNat n)) = true) (h2:Au (f (toN (Ad (wr .i64 (As (wr .i64 (Ae (ofNat b) (ofNat n))) 1)) (ofNat n)))) = false):Ai (Jk L) (Pl n f) (ON n f b j) = some (.nm,⟨(jsV 97 0 (fun _=>.und) [(0,(.sl 6 n (fun i=>eV (f i)))),(1,(.fn 54 [])),(4,(.ref 0)),(5,(nV n)),(6,(iV 0)),(18,(nV n)),(19,(iV (wr .i64 (Ae (ofNat b) 1))))]),[r3Z]⟩):=Aa [true,false,true,false] [ilt (ofNat b) (ofNat n),ieq (ofNat n) 0,Af (ile 0 (Ad (wr .i64 (As (wr .i64 (Ae (ofNat b) (ofNat n))) 1)) (ofNat n))) (ilt (Ad (wr .i64 (As (wr .i64 (Ae (ofNat b) (ofNat n))) 1)) (ofNat n)) (ofNat n)),Au (f (toN (Ad (wr .i64 (As (wr .i64 (Ae (ofNat b) (ofNat n))) 1)) (ofNat n))))] (by kernel_rfl) (by simp only [h13] <;> simp only [*] <;> rfl)
theorem Aej (h0:ilt (ofNat b) (ofNat n) = true) (h1:ieq (ofNat n) 0 = false) (h13:Af (ile 0 (Ad (wr .i64 (As (wr .i64 (Ae (ofNat b) (ofNat n))) 1)) (ofNat n))) (ilt (Ad (wr .i64 (As (wr .i64 (Ae (ofNat b) (ofNat n))) 1)) (ofNat n)) (ofNat n)) = true) (h2:Au (f (toN (Ad (wr .i64 (As (wr .i64 (Ae (ofNat b) (ofNat n))) 1)) (ofNat n)))) = true):Ai (Jk L) (Pl n f) (ON n f b j) = some ((.ex 0),⟨(jsV 97 0 (fun _=>.und) [(0,(.sl 6 n (fun i=>eV (f i)))),(1,(.fn 54 [])),(4,(.ref 0)),(5,(nV n)),(6,(nV b))]),[r3Z]⟩):=Aa [true,false,true,true] [ilt (ofNat b) (ofNat n),ieq (ofNat n) 0,Af (ile 0 (Ad (wr .i64 (As (wr .i64 (Ae (ofNat b) (ofNat n))) 1)) (ofNat n))) (ilt (Ad (wr .i64 (As (wr .i64 (Ae (ofNat b) (ofNat n))) 1)) (ofNat n)) (ofNat n)),Au (f (toN (Ad (wr .i64 (As (wr .i64 (Ae (ofNat b) (ofNat n))) 1)) (ofNat n))))] (by kernel_rfl) (by simp only [h13] <;> simp only [*] <;> rfl)
theorem Aen (h0:ilt (ofNat b) (ofNat n) = false):Ai (Jk L) (Pl n f) (ON n f b j) = some ((.ex 0),⟨(jsV 97 0 (fun _=>.und) [(0,(.sl 6 n (fun i=>eV (f i)))),(1,(.fn 54 [])),(4,(.ref 0)),(5,(nV n)),(6,(iV 0))]),[r3Z]⟩):=Aa [false] [ilt (ofNat b) (ofNat n)] (by kernel_rfl) (by simp only [h0] <;> rfl)
end
def Ac2 (n:Nat) (f:Nat->E6) :Nat->V:=lkV A7 [(16,(.sl 6 n (fun i=>eV (f i)))),(17,(nV n))]
def Hj (n:Nat) (f:Nat->E6):Lp:=⟨(bmK 97 0 [0,1,4,5,6,8,9,37,38]),2,bmK 97 0 [0,1,4,5,8],2,n+1⟩
def I6 (n:Nat) (f:Nat->E6) (z b k:Nat) (g:Nat->Int) (j:Nat->V):St:=⟨(jsV 97 0 j [(0,.sl 6 n fun i=>eV (f i)),(1,.fn 54 []),(4,.ref 0),(5,nV n),(6,nV z),(8,.ref 1),(9,nV k),(37,nV n),(38,nV b)]),[.row 3 1 0 (fun _=>.und),.row 3 1 n (fun i=>iV (g i))]⟩
def NV (n:Nat) (f:Nat->E6) (z b k:Nat) (g:Nat->Int):Ex × St:=(.ex 2,⟨(jsV 97 0 (fun _=>.und) [(0,.sl 6 n fun i=>eV (f i)),(1,.fn 54 []),(4,.ref 0),(5,nV n),(8,.ref 1)]),[.row 3 1 0 (fun _=>.und),.row 3 1 n (fun i=>iV (g i))]⟩)
noncomputable def Ev (L:LT):St->T (Ex × St):=fun st=>A9 tab ⟨Ao tb53,L,Gl⟩ (Av Try.f53 2) 2 st
section
variable (L:LT) (n:Nat) (f:Nat->E6) (z b k:Nat) (g:Nat->Int)  (j:Nat->V)
include L n f z b k g j
theorem Aeb (h0:ilt (ofNat b) (ofNat n) = true) (h1:ieq (ofNat n) 0 = false) (h2:ilt 0 (ofNat b) = false) (h13:Af (ile 0 (Ad (wr .i64 (Ae (ofNat z) (ofNat b))) (ofNat n))) (ilt (Ad (wr .i64 (Ae (ofNat z) (ofNat b))) (ofNat n)) (ofNat n)) = true) (h14:nlt (toN (Ad (wr .i64 (Ae (ofNat z) (ofNat b))) (ofNat n))) n = true):Ai (Ev L) (Hj n f) (I6 n f z b k g j) = some (.nm,⟨(jsV 97 0 (fun _=>.und) [(0,(.sl 6 n (fun i=>eV (f i)))),(1,(.fn 54 [])),(4,(.ref 0)),(5,(nV n)),(6,(nV z)),(8,(.ref 1)),(9,(nV k)),(37,(nV n)),(38,(iV (wr .i64 (Ae (ofNat b) 1))))]),[r3Z,.row 3 1 n (Bl (fun i=>iV (g i)) (toN (Ad (wr .i64 (Ae (ofNat z) (ofNat b))) (ofNat n))) (nV k))]⟩):=Aa (bbK 17 98305) ((fun c0=>[ilt (ofNat b) (ofNat n),ieq (ofNat n) 0,c0,c0,c0,c0,c0,c0,c0,c0,c0,c0,c0,c0,false,Af (ile 0 (Ad (wr .i64 (Ae (ofNat z) (ofNat b))) (ofNat n))) (ilt (Ad (wr .i64 (Ae (ofNat z) (ofNat b))) (ofNat n)) (ofNat n)),nlt (toN (Ad (wr .i64 (Ae (ofNat z) (ofNat b))) (ofNat n))) n]) (ilt 0 (ofNat b))) (by kernel_rfl) (by simp only [h13] <;> simp only [*] <;> rfl)
theorem Aef (h0:ilt (ofNat b) (ofNat n) = true) (h1:ieq (ofNat n) 0 = false) (h2:ilt 0 (ofNat b) = true) (h14:Af (ile 0 (Ad (wr .i64 (As (wr .i64 (Ae (Ad (wr .i64 (Ae (ofNat z) (ofNat b))) (ofNat n)) (ofNat n))) 1)) (ofNat n))) (ilt (Ad (wr .i64 (As (wr .i64 (Ae (Ad (wr .i64 (Ae (ofNat z) (ofNat b))) (ofNat n)) (ofNat n))) 1)) (ofNat n)) (ofNat n)) = true) (h3:Au (f (toN (Ad (wr .i64 (As (wr .i64 (Ae (Ad (wr .i64 (Ae (ofNat z) (ofNat b))) (ofNat n)) (ofNat n))) 1)) (ofNat n)))) = false) (h16:Af (ile 0 (Ad (wr .i64 (Ae (ofNat z) (ofNat b))) (ofNat n))) (ilt (Ad (wr .i64 (Ae (ofNat z) (ofNat b))) (ofNat n)) (ofNat n)) = true) (h17:nlt (toN (Ad (wr .i64 (Ae (ofNat z) (ofNat b))) (ofNat n))) n = true):Ai (Ev L) (Hj n f) (I6 n f z b k g j) = some (.nm,⟨(jsV 97 0 (fun _=>.und) [(0,(.sl 6 n (fun i=>eV (f i)))),(1,(.fn 54 [])),(4,(.ref 0)),(5,(nV n)),(6,(nV z)),(8,(.ref 1)),(9,(nV k)),(37,(nV n)),(38,(iV (wr .i64 (Ae (ofNat b) 1))))]),[r3Z,.row 3 1 n (Bl (fun i=>iV (g i)) (toN (Ad (wr .i64 (Ae (ofNat z) (ofNat b))) (ofNat n))) (nV k))]⟩):=Aa (bbK 19 457725) ((fun c0 c1=>[ilt (ofNat b) (ofNat n),c0,c1,c1,c1,c1,c1,c1,c1,c1,c0,c1,Af (ile 0 (Ad (wr .i64 (As (wr .i64 (Ae (Ad (wr .i64 (Ae (ofNat z) (ofNat b))) (ofNat n)) (ofNat n))) 1)) (ofNat n))) (ilt (Ad (wr .i64 (As (wr .i64 (Ae (Ad (wr .i64 (Ae (ofNat z) (ofNat b))) (ofNat n)) (ofNat n))) 1)) (ofNat n)) (ofNat n)),c1,c1,c1,Au (f (toN (Ad (wr .i64 (As (wr .i64 (Ae (Ad (wr .i64 (Ae (ofNat z) (ofNat b))) (ofNat n)) (ofNat n))) 1)) (ofNat n)))),Af (ile 0 (Ad (wr .i64 (Ae (ofNat z) (ofNat b))) (ofNat n))) (ilt (Ad (wr .i64 (Ae (ofNat z) (ofNat b))) (ofNat n)) (ofNat n)),nlt (toN (Ad (wr .i64 (Ae (ofNat z) (ofNat b))) (ofNat n))) n]) (ieq (ofNat n) 0) (ilt 0 (ofNat b))) (by kernel_rfl) (by simp only [h14,h16] <;> simp only [*] <;> rfl)
theorem Aed (h0:ilt (ofNat b) (ofNat n) = true) (h1:ieq (ofNat n) 0 = false) (h2:ilt 0 (ofNat b) = true) (h14:Af (ile 0 (Ad (wr .i64 (As (wr .i64 (Ae (Ad (wr .i64 (Ae (ofNat z) (ofNat b))) (ofNat n)) (ofNat n))) 1)) (ofNat n))) (ilt (Ad (wr .i64 (As (wr .i64 (Ae (Ad (wr .i64 (Ae (ofNat z) (ofNat b))) (ofNat n)) (ofNat n))) 1)) (ofNat n)) (ofNat n)) = true) (h3:Au (f (toN (Ad (wr .i64 (As (wr .i64 (Ae (Ad (wr .i64 (Ae (ofNat z) (ofNat b))) (ofNat n)) (ofNat n))) 1)) (ofNat n)))) = true) (h16:Af (ile 0 (Ad (wr .i64 (Ae (ofNat z) (ofNat b))) (ofNat n))) (ilt (Ad (wr .i64 (Ae (ofNat z) (ofNat b))) (ofNat n)) (ofNat n)) = true) (h17:nlt (toN (Ad (wr .i64 (Ae (ofNat z) (ofNat b))) (ofNat n))) n = true):Ai (Ev L) (Hj n f) (I6 n f z b k g j) = some (.nm,⟨(jsV 97 0 (fun _=>.und) [(0,(.sl 6 n (fun i=>eV (f i)))),(1,(.fn 54 [])),(4,(.ref 0)),(5,(nV n)),(6,(nV z)),(8,(.ref 1)),(9,(iV (wr .i64 (Ae (ofNat k) 1)))),(37,(nV n)),(38,(iV (wr .i64 (Ae (ofNat b) 1))))]),[r3Z,.row 3 1 n (Bl (fun i=>iV (g i)) (toN (Ad (wr .i64 (Ae (ofNat z) (ofNat b))) (ofNat n))) (iV (wr .i64 (Ae (ofNat k) 1))))]⟩):=Aa (bbK 19 523261) ((fun c0 c1=>[ilt (ofNat b) (ofNat n),c0,c1,c1,c1,c1,c1,c1,c1,c1,c0,c1,Af (ile 0 (Ad (wr .i64 (As (wr .i64 (Ae (Ad (wr .i64 (Ae (ofNat z) (ofNat b))) (ofNat n)) (ofNat n))) 1)) (ofNat n))) (ilt (Ad (wr .i64 (As (wr .i64 (Ae (Ad (wr .i64 (Ae (ofNat z) (ofNat b))) (ofNat n)) (ofNat n))) 1)) (ofNat n)) (ofNat n)),c1,c1,c1,Au (f (toN (Ad (wr .i64 (As (wr .i64 (Ae (Ad (wr .i64 (Ae (ofNat z) (ofNat b))) (ofNat n)) (ofNat n))) 1)) (ofNat n)))),Af (ile 0 (Ad (wr .i64 (Ae (ofNat z) (ofNat b))) (ofNat n))) (ilt (Ad (wr .i64 (Ae (ofNat z) (ofNat b))) (ofNat n)) (ofNat n)),nlt (toN (Ad (wr .i64 (Ae (ofNat z) (ofNat b))) (ofNat n))) n]) (ieq (ofNat n) 0) (ilt 0 (ofNat b))) (by kernel_rfl) (by simp only [h14,h16] <;> simp only [*] <;> rfl)
theorem Aeh (h0:ilt (ofNat b) (ofNat n) = false):Ai (Ev L) (Hj n f) (I6 n f z b k g j) = some ((.ex 2),⟨(jsV 97 0 (fun _=>.und) [(0,(.sl 6 n (fun i=>eV (f i)))),(1,(.fn 54 [])),(4,(.ref 0)),(5,(nV n)),(8,(.ref 1))]),[r3Z,.row 3 1 n (fun i=>iV (g i))]⟩):=Aa [false] [ilt (ofNat b) (ofNat n)] (by kernel_rfl) (by simp only [h0] <;> rfl)
end
def VK (n:Nat) (f:Nat->E6) (z:Nat):St:=⟨(jsV 97 0 (fun _=>.und) [(0,(.sl 6 n (fun i=>eV (f i)))),(1,(.fn 54 [])),(4,(.ref 0)),(5,(nV n)),(6,(nV z)),(8,(.ref 1)),(9,(iV 0)),(35,(nV n)),(36,(.ref 1)),(37,(nV n)),(38,(iV 0))]),[r3Z,.row 3 1 n (fun _=>iV 0)]⟩
def IL (n:Nat) (f:Nat->E6):Lp:=⟨(bmK 97 0 [4,8,12,13,70,71]),4,bmK 97 0 [13],4,n+1⟩
def JQ (n:Nat) (f:Nat->E6) (b r:Nat) (g s o:Nat->Int) (j:Nat->V):St:=⟨(jsV 97 0 j [(4,.ref 0),(8,.ref 1),(12,.ref 2),(13,.ref 3),(70,nV n),(71,nV b)]),[.row 3 1 0 (fun _=>.und),.row 3 1 n (fun i=>iV (g i)),.row 3 1 r (fun i=>iV (s i)),.row 3 1 n (fun i=>iV (o i))]⟩
def NT (n:Nat) (f:Nat->E6) (b r:Nat) (g s o:Nat->Int):Ex × St:=(.ex 4,⟨(jsV 97 0 (fun _=>.und) [(13,.ref 3)]),[.row 3 1 0 (fun _=>.und),.row 3 1 n (fun i=>iV (g i)),.row 3 1 r (fun i=>iV (s i)),.row 3 1 n (fun i=>iV (o i))]⟩)
noncomputable def Fs (L:LT):St->T (Ex × St):=fun st=>A9 tab ⟨Ao tb53,L,Gl⟩ (Av Try.f53 4) 4 st
section
variable (L:LT) (n:Nat) (f:Nat->E6) (b r:Nat) (g s o:Nat->Int)  (j:Nat->V)
include L n f b r g s o j
theorem AdV (h0:ilt (ofNat b) (ofNat n) = true) (h13:ile 0 (ofNat b) = true) (h1:nlt b n = true) (h2:Ca r = true) (h3:ilt (Hq r s (g b)) 0 = false):Ai (Fs L) (IL n f) (JQ n f b r g s o j) = some (.nm,⟨(jsV 97 0 (fun _=>.und) [(4,(.ref 0)),(8,(.ref 1)),(12,(.ref 2)),(13,(.ref 3)),(70,(nV n)),(71,(iV (wr .i64 (Ae (ofNat b) 1))))]),[r3Z,.row 3 1 n (fun i=>iV (g i)),.row 3 1 r (fun i=>iV (s i)),.row 3 1 n (Bl (fun i=>iV (o i)) b (iV (Hq r s (g b))))]⟩):=Aa (bbK 8 223) ((fun c0 c1=>[ilt (ofNat b) (ofNat n),c0,c1,An r (fun _=>true),Ca r,ilt (Hq r s (g b)) 0,c0,c1]) (Af (ile 0 (ofNat b)) (ilt (ofNat b) (ofNat n))) (nlt b n)) (by kernel_rfl) (by simp only [*,Ar] <;> rfl)
theorem AdX (h0:ilt (ofNat b) (ofNat n) = true) (h13:ile 0 (ofNat b) = true) (h1:nlt b n = true) (h2:Ca r = true) (h3:ilt (Hq r s (g b)) 0 = true) (h14:Bj r 1 8 = true):Ai (Fs L) (IL n f) (JQ n f b r g s o j) = some (.nm,⟨(jsV 97 0 (fun _=>.und) [(4,(.ref 0)),(8,(.ref 1)),(12,(.ref 2)),(13,(.ref 3)),(70,(nV n)),(71,(iV (wr .i64 (Ae (ofNat b) 1))))]),[r3Z,.row 3 1 n (fun i=>iV (g i)),.row 3 1 (B4 r 1) (AK r (fun i=>iV (s i)) (iV (g b))),.row 3 1 n (Bl (fun i=>iV (o i)) b (nV r))]⟩):=Aa (bbK 11 2047) ((fun c0 c1=>[ilt (ofNat b) (ofNat n),c0,c1,An r (fun _=>true),Ca r,ilt (Hq r s (g b)) 0,c0,c1,Bj r 1 8,c0,c1]) (Af (ile 0 (ofNat b)) (ilt (ofNat b) (ofNat n))) (nlt b n)) (by kernel_rfl) (by simp only [*,Ar] <;> rfl)
theorem AdZ (h0:ilt (ofNat b) (ofNat n) = false):Ai (Fs L) (IL n f) (JQ n f b r g s o j) = some ((.ex 4),⟨(jsV 97 0 (fun _=>.und) [(13,(.ref 3))]),[r3Z,.row 3 1 n (fun i=>iV (g i)),.row 3 1 r (fun i=>iV (s i)),.row 3 1 n (fun i=>iV (o i))]⟩):=Aa [false] [ilt (ofNat b) (ofNat n)] (by kernel_rfl) (by simp only [h0] <;> rfl)
end
def V2 (n:Nat) (f:Nat->E6) (z:Nat) (g:Nat->Int):St:=⟨(jsV 97 0 (fun _=>.und) [(0,(.sl 6 n (fun i=>eV (f i)))),(1,(.fn 54 [])),(4,(.ref 0)),(5,(nV n)),(8,(.ref 1)),(12,(.ref 2)),(13,(.ref 3)),(68,(nV n)),(69,(.ref 3)),(70,(nV n)),(71,(iV 0))]),[r3Z,.row 3 1 n (fun i=>iV (g i)),r3Z,.row 3 1 n (fun _=>iV 0)]⟩
noncomputable abbrev KX (L:LT) (p0:PT) (p2:PT) (p4:PT) (n:Nat) (f:Nat->E6) (z:Nat) (g:Nat->Int) (r:Nat) (gg:Nat->Int) (ss:Nat->Int) (o:Nat->Int):LT:=onP 0 p0 (Uk n f z) (onP 2 p2 (NV n f z 0 0 g) (onP 4 p4 (NT n f 0 r gg ss o) L))
theorem Agn (L:LT) (p0:PT) (p2:PT) (p4:PT) (n:Nat) (f:Nat->E6) (z:Nat) (g:Nat->Int) (r:Nat) (gg ss o:Nat->Int) (h0:BL 8 (ofNat n) (ofNat n) = true) (hp0:p0 (Jk (KX L p0 p2 p4 n f z g r gg ss o)) (ON n f 0 (Ac2 n f )) = true) (hp2:p2 (Ev (KX L p0 p2 p4 n f z g r gg ss o)) (VK n f z) = true) (hp4:p4 (Fs (KX L p0 p2 p4 n f z g r gg ss o)) (V2 n f z g) = true):(A1 (Al tab ⟨Ao tb53,onP 0 p0 (Uk n f z) (onP 2 p2 (NV n f z 0 0 g) (onP 4 p4 (NT n f 0 r gg ss o) L)),Gl⟩ Try.f53 [.sl 6 n fun i=>eV (f i),.fn 54 []] [])).sem = some ((.ref 0),[.row 3 1 n (fun i=>iV (o i))]):=Aa [true,true,true,true,true] [p0 (Jk (KX L p0 p2 p4 n f z g r gg ss o)) (ON n f 0 (Ac2 n f )),BL 8 (ofNat n) (ofNat n),p2 (Ev (KX L p0 p2 p4 n f z g r gg ss o)) (VK n f z),BL 8 (ofNat n) (ofNat n),p4 (Fs (KX L p0 p2 p4 n f z g r gg ss o)) (V2 n f z g)] (by kernel_rfl) (by simp only [hp0,hp2,hp4] <;> simp only [h0] <;> rfl)
theorem XY (L:LT) (n:Nat) (f:Nat->E6) (hn:n <= 4611686018427387903):∀ (e i:Nat) (j:Nat->V) (q:Nat),n = i+e->e < q->(∀ k,k < i->(fun k=>Az (f k)) ((k+(n - 1)) % n) = false) ->
    (A3 (Jl L) (Pm n f) q (OO n f i j)).sem = some (Ul n f (Cc (fun k=>Az (f k)) n))
  | 0,i,j,q+1,h,_,hb=>by
    have:n = i:=by omega
    subst this
    rw [Oo hb]
    exact Ab (Aeo L n f n j (A8 (Nat.le_refl _)))
  | e+1,i,j,q+1,h,h2,hb=>by
    have hl:i < n:=by omega
    have hx:=Jm (a:=i) (n:=n) (by omega) (by omega)
    have hin:Af (ile 0 (Ad (wr .i64 (As (wr .i64 (Ae (ofNat i) (ofNat n))) 1)) (ofNat n))) (ilt (Ad (wr .i64 (As (wr .i64 (Ae (ofNat i) (ofNat n))) 1)) (ofNat n)) (ofNat n)) = true:=by
      rw [hx]
      exact Ay (Nat.mod_lt _ (by omega))
    cases hp:Az (f ((i+(n - 1)) % n)) with
    | true =>
      rw [SU (p:=fun k=>Az (f k)) hl hp hb]
      exact Ab (Aek L n f i j (ofNat_lt hl) (F2 (by omega)) hin (by rw [hx]; exact hp))
    | false =>
      rw [Ab (Aem L n f i j (ofNat_lt hl) (F2 (by omega)) hin (by rw [hx]; exact hp)),Aw,Aq hl (by omega)]
      refine XY L n f hn e (i+1) (fun _=>.und) q (by omega) (by omega) fun k hk=>?_
      by_cases hki:k = i
      · rw [hki]; exact hp
      · exact hb k (by omega)
theorem UK (L:LT) (n:Nat) (f:Nat->E6) (hn:n <= 4611686018427387903) (z:Nat) (hz:z < n):∀ (e b:Nat) (j:Nat->V) (q:Nat),n = b+e->e < q ->
    (A3 (Ew L) (Hk n f) q (I7 n f z b (Aj (DO (fun k=>Az (f k)) n z) (b - 1)) (gN (fun k=>Az (f k)) n z b) j)).sem = some (NW n f z 0 0 (gN (fun k=>Az (f k)) n z n))
  | 0,b,j,q+1,h,_=>by
    have:n = b:=by omega
    subst this
    exact Ab (Aei L n f z n _ _ j (A8 (Nat.le_refl _)))
  | e+1,b,j,q+1,h,h2=>by
    have hl:b < n:=by omega
    have hI:Ad (wr .i64 (Ae (ofNat z) (ofNat b))) (ofNat n) = ofNat ((z+b) % n):=by rw [D3 (by omega),Cy]
    have hlt:(z+b) % n < n:=Nat.mod_lt _ (by omega)
    have hin:Af (ile 0 (Ad (wr .i64 (Ae (ofNat z) (ofNat b))) (ofNat n))) (ilt (Ad (wr .i64 (Ae (ofNat z) (ofNat b))) (ofNat n)) (ofNat n)) = true:=by
      rw [hI]
      exact Ay hlt
    have hnl:nlt (toN (Ad (wr .i64 (Ae (ofNat z) (ofNat b))) (ofNat n))) n = true:=by
      rw [hI]
      exact decide_eq_true hlt
    have next:=UK L n f hn z hz e (b+1) (fun _=>.und) q (by omega) (by omega)
    rw [show b+1 - 1 = b by omega] at next
    cases b with
    | zero =>
      rw [Ab (Aec L n f z 0 _ _ j (ofNat_lt hl) (F2 (by omega)) rfl hin hnl),Aw,hI,Aq hl (by omega),show toN (ofNat ((z+0) % n)) = (z+0) % n from rfl,Cf]
      have hs:=Mv (p:=fun k=>Az (f k)) hz hl
      rw [<- hs] at next
      exact next
    | succ b =>
      have hx:Ad (wr .i64 (As (wr .i64 (Ae (Ad (wr .i64 (Ae (ofNat z) (ofNat (b+1)))) (ofNat n)) (ofNat n))) 1)) (ofNat n) = ofNat ((z+b) % n):=by
        rw [hI,Jm (by omega) (by omega),P7 hz (by omega)]
      have hxin:Af (ile 0 (Ad (wr .i64 (As (wr .i64 (Ae (Ad (wr .i64 (Ae (ofNat z) (ofNat (b+1)))) (ofNat n)) (ofNat n))) 1)) (ofNat n))) (ilt (Ad (wr .i64 (As (wr .i64 (Ae (Ad (wr .i64 (Ae (ofNat z) (ofNat (b+1)))) (ofNat n)) (ofNat n))) 1)) (ofNat n)) (ofNat n)) = true:=by
        rw [hx]
        exact Ay (Nat.mod_lt _ (by omega))
      have hs:=Mv (p:=fun k=>Az (f k)) hz hl
      have hc:=Bd (DO (fun k=>Az (f k)) n z) b
      have h0:ilt 0 (ofNat (b+1)) = true:=by rw [show (0:Int) = ofNat 0 from rfl,Cz]; simp
      rw [show b+1 - 1 = b by omega]
      cases hp:Az (f ((z+b) % n)) with
      | true =>
        rw [Ab (Aee L n f z (b+1) _ _ j (ofNat_lt hl) (F2 (by omega)) h0 hxin (by rw [hx]; exact hp) hin hnl),Aw,hI,Aq hl (by omega),show toN (ofNat ((z+(b+1)) % n)) = (z+(b+1)) % n from rfl,Aq (show Aj (DO (fun k=>Az (f k)) n z) b < n by omega) (by omega),Cf,<- Bi (p:=DO (fun k=>Az (f k)) n z) (i:=b) hp,hs]
        exact next
      | false =>
        rw [Ab (Aeg L n f z (b+1) _ _ j (ofNat_lt hl) (F2 (by omega)) h0 hxin (by rw [hx]; exact hp) hin hnl),Aw,hI,Aq hl (by omega),show toN (ofNat ((z+(b+1)) % n)) = (z+(b+1)) % n from rfl,Cf,<- B2 (p:=DO (fun k=>Az (f k)) n z) (i:=b) hp,hs]
        exact next
theorem UI (L:LT) (n:Nat) (f:Nat->E6) (p:Nat->Bool) (hn:n * 8 <= 140737488355328) (z:Nat) (g:Nat->Int) (hg:∀ i,i < n->g i = ofNat (snN p n z (Ba p n i))):∀ (e b:Nat) (j:Nat->V) (q:Nat),n = b+e->e < q ->
    (A3 (Ft L) (IM n f) q (JR n f b (rN p n b) g (E9 p n z b) (TJ p n b) j)).sem = some (NU n f 0 (rN p n n) g (E9 p n z n) (A0 p n))
  | 0,b,j,q+1,h,_=>by
    have:n = b:=by omega
    subst this
    rw [<- Yv p n]
    exact Ab (Aea L n f n _ _ _ _ j (A8 (Nat.le_refl _)))
  | e+1,b,j,q+1,h,h2=>by
    have hl:b < n:=by omega
    have hr:=R0 p n b
    have h8:Ca (rN p n b) = true:=by
      unfold Ca
      simp
      omega
    have hnl:nlt b n = true:=by simpa [nlt] using hl
    have next:=UI L n f p hn z g hg e (b+1) (fun _=>.und) q (by omega) (by omega)
    rcases Nat.lt_or_ge (Ba p n b) (rN p n b) with hc | hc
    · have hi:=Rs (z:=z) hl hc
      rw [<- hg b hl] at hi
      obtain ⟨e1,e2⟩:=MQ (z:=z) hc
      rw [Ab (AdW L n f b _ g _ _ j (ofNat_lt hl) (AJ b) hnl h8 (by rw [hi]; simp [ilt])),Aw,Aq hl (by omega),hi,Cf,IJ hl]
      rw [e1,e2] at next
      exact next
    · have hc:Ba p n b = rN p n b:=Nat.le_antisymm (Ka p n b hl) hc
      have hi:=Rt (z:=z) hl hc
      rw [<- hg b hl] at hi
      obtain ⟨e1,e2⟩:=OR (z:=z) hc
      rw [<- hg b hl] at e1
      rw [Ab (AdY L n f b _ g _ _ j (ofNat_lt hl) (AJ b) hnl h8 (by rw [hi]; rfl) (CS (by omega))),Aw,Aq hl (by omega),e1,Cf,<- hc,IJ hl]
      rw [e2,<- hc] at next
      exact next
def U0:List (Nat × List (Nat × V)):=[(4,[(2,iV 0)])]
def Qi (n:Nat) (f:Nat->E6):List (Nat × Lp):=[(0,Pm n f),(2,Hk n f),(4,IM n f)]
theorem AbK (n:Nat) (f:Nat->E6) (z:Nat) (g:Nat->Int):CI (V3 n f z g) [(2,iV 0)] = JR n f 0 0 g (fun _=>0) (fun _=>0) (fun i=>nth (V3 n f z g).t i):=by kernel_rfl
theorem AfT (n:Nat) (f:Nat->E6) (z:Nat):VL n f z = I7 n f z 0 0 (fun _=>0) (fun i=>nth (VL n f z).t i):=by kernel_rfl
theorem Aai (n:Nat) (f:Nat->E6) (hp:0 < n) (h8:n * 8 <= 140737488355328) (hm:BL 8 (ofNat n) (ofNat n) = true) :
    (A1 (Al tab (cxZ Gl tb53 U0 (Qi n f)) Try.f53 [A2 n f,.fn 52 []] [])).sem = some (.ref 0,[.row 3 1 n fun k=>iV (A0 (fun k=>Az (f k)) n k)]):=by
  have hL:=DI U0 (Qi n f)
  have hz:=ST (fun k=>Az (f k)) hp
  have hb:=On (fun k=>Az (f k)) hp
  refine A6 (Ax (Ax (Ax hL hL) hL) hL) _ (Ago _ _ _ _ n f (Cc (fun k=>Az (f k)) n) (gN (fun k=>Az (f k)) n (Cc (fun k=>Az (f k)) n) n) (rN (fun k=>Az (f k)) n n) (gN (fun k=>Az (f k)) n (Cc (fun k=>Az (f k)) n) n) (E9 (fun k=>Az (f k)) n (Cc (fun k=>Az (f k)) n) n) (A0 (fun k=>Az (f k)) n) hm
    (Ak ?_) (Ak ?_) (Ak ?_))
  · show (A3 _ (Pm n f) (n+1) _).sem = _
    exact XY _ n f (by omega) n 0 _ (n+1) (by omega) (by omega) (fun k hk=>absurd hk (Nat.not_lt_zero _))
  · show (A3 _ (Hk n f) (n+1) _).sem = _
    rw [AfT]
    have h:=fun L j=>UK L n f (by omega) _ hz n 0 j (n+1) (by omega) (by omega)
    simp only [AiM] at h
    exact h _ _
  · show (A3 _ (IM n f) (n+1) (CI _ [(2,iV 0)])).sem = _
    rw [AbK]
    exact UI _ n f (fun k=>Az (f k)) h8 (Cc (fun k=>Az (f k)) n) _ (fun i hi=>Ze hb hi) n 0 _ (n+1) (by omega) (by omega)
theorem XX (L:LT) (n:Nat) (f:Nat->E6) (hn:n <= 4611686018427387903):∀ (e i:Nat) (j:Nat->V) (q:Nat),n = i+e->e < q->(∀ k,k < i->(fun k=>Au (f k)) ((k+(n - 1)) % n) = false) ->
    (A3 (Jk L) (Pl n f) q (ON n f i j)).sem = some (Uk n f (Cc (fun k=>Au (f k)) n))
  | 0,i,j,q+1,h,_,hb=>by
    have:n = i:=by omega
    subst this
    rw [Oo hb]
    exact Ab (Aen L n f n j (A8 (Nat.le_refl _)))
  | e+1,i,j,q+1,h,h2,hb=>by
    have hl:i < n:=by omega
    have hx:=Jm (a:=i) (n:=n) (by omega) (by omega)
    have hin:Af (ile 0 (Ad (wr .i64 (As (wr .i64 (Ae (ofNat i) (ofNat n))) 1)) (ofNat n))) (ilt (Ad (wr .i64 (As (wr .i64 (Ae (ofNat i) (ofNat n))) 1)) (ofNat n)) (ofNat n)) = true:=by
      rw [hx]
      exact Ay (Nat.mod_lt _ (by omega))
    cases hp:Au (f ((i+(n - 1)) % n)) with
    | true =>
      rw [SU (p:=fun k=>Au (f k)) hl hp hb]
      exact Ab (Aej L n f i j (ofNat_lt hl) (F2 (by omega)) hin (by rw [hx]; exact hp))
    | false =>
      rw [Ab (Ael L n f i j (ofNat_lt hl) (F2 (by omega)) hin (by rw [hx]; exact hp)),Aw,Aq hl (by omega)]
      refine XX L n f hn e (i+1) (fun _=>.und) q (by omega) (by omega) fun k hk=>?_
      by_cases hki:k = i
      · rw [hki]; exact hp
      · exact hb k (by omega)
theorem UJ (L:LT) (n:Nat) (f:Nat->E6) (hn:n <= 4611686018427387903) (z:Nat) (hz:z < n):∀ (e b:Nat) (j:Nat->V) (q:Nat),n = b+e->e < q ->
    (A3 (Ev L) (Hj n f) q (I6 n f z b (Aj (DO (fun k=>Au (f k)) n z) (b - 1)) (gN (fun k=>Au (f k)) n z b) j)).sem = some (NV n f z 0 0 (gN (fun k=>Au (f k)) n z n))
  | 0,b,j,q+1,h,_=>by
    have:n = b:=by omega
    subst this
    exact Ab (Aeh L n f z n _ _ j (A8 (Nat.le_refl _)))
  | e+1,b,j,q+1,h,h2=>by
    have hl:b < n:=by omega
    have hI:Ad (wr .i64 (Ae (ofNat z) (ofNat b))) (ofNat n) = ofNat ((z+b) % n):=by rw [D3 (by omega),Cy]
    have hlt:(z+b) % n < n:=Nat.mod_lt _ (by omega)
    have hin:Af (ile 0 (Ad (wr .i64 (Ae (ofNat z) (ofNat b))) (ofNat n))) (ilt (Ad (wr .i64 (Ae (ofNat z) (ofNat b))) (ofNat n)) (ofNat n)) = true:=by
      rw [hI]
      exact Ay hlt
    have hnl:nlt (toN (Ad (wr .i64 (Ae (ofNat z) (ofNat b))) (ofNat n))) n = true:=by
      rw [hI]
      exact decide_eq_true hlt
    have next:=UJ L n f hn z hz e (b+1) (fun _=>.und) q (by omega) (by omega)
    rw [show b+1 - 1 = b by omega] at next
    cases b with
    | zero =>
      rw [Ab (Aeb L n f z 0 _ _ j (ofNat_lt hl) (F2 (by omega)) rfl hin hnl),Aw,hI,Aq hl (by omega),show toN (ofNat ((z+0) % n)) = (z+0) % n from rfl,Cf]
      have hs:=Mv (p:=fun k=>Au (f k)) hz hl
      rw [<- hs] at next
      exact next
    | succ b =>
      have hx:Ad (wr .i64 (As (wr .i64 (Ae (Ad (wr .i64 (Ae (ofNat z) (ofNat (b+1)))) (ofNat n)) (ofNat n))) 1)) (ofNat n) = ofNat ((z+b) % n):=by
        rw [hI,Jm (by omega) (by omega),P7 hz (by omega)]
      have hxin:Af (ile 0 (Ad (wr .i64 (As (wr .i64 (Ae (Ad (wr .i64 (Ae (ofNat z) (ofNat (b+1)))) (ofNat n)) (ofNat n))) 1)) (ofNat n))) (ilt (Ad (wr .i64 (As (wr .i64 (Ae (Ad (wr .i64 (Ae (ofNat z) (ofNat (b+1)))) (ofNat n)) (ofNat n))) 1)) (ofNat n)) (ofNat n)) = true:=by
        rw [hx]
        exact Ay (Nat.mod_lt _ (by omega))
      have hs:=Mv (p:=fun k=>Au (f k)) hz hl
      have hc:=Bd (DO (fun k=>Au (f k)) n z) b
      have h0:ilt 0 (ofNat (b+1)) = true:=by rw [show (0:Int) = ofNat 0 from rfl,Cz]; simp
      rw [show b+1 - 1 = b by omega]
      cases hp:Au (f ((z+b) % n)) with
      | true =>
        rw [Ab (Aed L n f z (b+1) _ _ j (ofNat_lt hl) (F2 (by omega)) h0 hxin (by rw [hx]; exact hp) hin hnl),Aw,hI,Aq hl (by omega),show toN (ofNat ((z+(b+1)) % n)) = (z+(b+1)) % n from rfl,Aq (show Aj (DO (fun k=>Au (f k)) n z) b < n by omega) (by omega),Cf,<- Bi (p:=DO (fun k=>Au (f k)) n z) (i:=b) hp,hs]
        exact next
      | false =>
        rw [Ab (Aef L n f z (b+1) _ _ j (ofNat_lt hl) (F2 (by omega)) h0 hxin (by rw [hx]; exact hp) hin hnl),Aw,hI,Aq hl (by omega),show toN (ofNat ((z+(b+1)) % n)) = (z+(b+1)) % n from rfl,Cf,<- B2 (p:=DO (fun k=>Au (f k)) n z) (i:=b) hp,hs]
        exact next
theorem UH (L:LT) (n:Nat) (f:Nat->E6) (p:Nat->Bool) (hn:n * 8 <= 140737488355328) (z:Nat) (g:Nat->Int) (hg:∀ i,i < n->g i = ofNat (snN p n z (Ba p n i))):∀ (e b:Nat) (j:Nat->V) (q:Nat),n = b+e->e < q ->
    (A3 (Fs L) (IL n f) q (JQ n f b (rN p n b) g (E9 p n z b) (TJ p n b) j)).sem = some (NT n f 0 (rN p n n) g (E9 p n z n) (A0 p n))
  | 0,b,j,q+1,h,_=>by
    have:n = b:=by omega
    subst this
    rw [<- Yv p n]
    exact Ab (AdZ L n f n _ _ _ _ j (A8 (Nat.le_refl _)))
  | e+1,b,j,q+1,h,h2=>by
    have hl:b < n:=by omega
    have hr:=R0 p n b
    have h8:Ca (rN p n b) = true:=by
      unfold Ca
      simp
      omega
    have hnl:nlt b n = true:=by simpa [nlt] using hl
    have next:=UH L n f p hn z g hg e (b+1) (fun _=>.und) q (by omega) (by omega)
    rcases Nat.lt_or_ge (Ba p n b) (rN p n b) with hc | hc
    · have hi:=Rs (z:=z) hl hc
      rw [<- hg b hl] at hi
      obtain ⟨e1,e2⟩:=MQ (z:=z) hc
      rw [Ab (AdV L n f b _ g _ _ j (ofNat_lt hl) (AJ b) hnl h8 (by rw [hi]; simp [ilt])),Aw,Aq hl (by omega),hi,Cf,IJ hl]
      rw [e1,e2] at next
      exact next
    · have hc:Ba p n b = rN p n b:=Nat.le_antisymm (Ka p n b hl) hc
      have hi:=Rt (z:=z) hl hc
      rw [<- hg b hl] at hi
      obtain ⟨e1,e2⟩:=OR (z:=z) hc
      rw [<- hg b hl] at e1
      rw [Ab (AdX L n f b _ g _ _ j (ofNat_lt hl) (AJ b) hnl h8 (by rw [hi]; rfl) (CS (by omega))),Aw,Aq hl (by omega),e1,Cf,<- hc,IJ hl]
      rw [e2,<- hc] at next
      exact next
def Uz:List (Nat × List (Nat × V)):=[(4,[(2,iV 0)])]
def Qh (n:Nat) (f:Nat->E6):List (Nat × Lp):=[(0,Pl n f),(2,Hj n f),(4,IL n f)]
theorem AbJ (n:Nat) (f:Nat->E6) (z:Nat) (g:Nat->Int):CI (V2 n f z g) [(2,iV 0)] = JQ n f 0 0 g (fun _=>0) (fun _=>0) (fun i=>nth (V2 n f z g).t i):=by kernel_rfl
theorem AfS (n:Nat) (f:Nat->E6) (z:Nat):VK n f z = I6 n f z 0 0 (fun _=>0) (fun i=>nth (VK n f z).t i):=by kernel_rfl
theorem Aah (n:Nat) (f:Nat->E6) (hp:0 < n) (h8:n * 8 <= 140737488355328) (hm:BL 8 (ofNat n) (ofNat n) = true) :
    (A1 (Al tab (cxZ Gl tb53 Uz (Qh n f)) Try.f53 [A2 n f,.fn 54 []] [])).sem = some (.ref 0,[.row 3 1 n fun k=>iV (A0 (fun k=>Au (f k)) n k)]):=by
  have hL:=DI Uz (Qh n f)
  have hz:=ST (fun k=>Au (f k)) hp
  have hb:=On (fun k=>Au (f k)) hp
  refine A6 (Ax (Ax (Ax hL hL) hL) hL) _ (Agn _ _ _ _ n f (Cc (fun k=>Au (f k)) n) (gN (fun k=>Au (f k)) n (Cc (fun k=>Au (f k)) n) n) (rN (fun k=>Au (f k)) n n) (gN (fun k=>Au (f k)) n (Cc (fun k=>Au (f k)) n) n) (E9 (fun k=>Au (f k)) n (Cc (fun k=>Au (f k)) n) n) (A0 (fun k=>Au (f k)) n) hm
    (Ak ?_) (Ak ?_) (Ak ?_))
  · show (A3 _ (Pl n f) (n+1) _).sem = _
    exact XX _ n f (by omega) n 0 _ (n+1) (by omega) (by omega) (fun k hk=>absurd hk (Nat.not_lt_zero _))
  · show (A3 _ (Hj n f) (n+1) _).sem = _
    rw [AfS]
    have h:=fun L j=>UJ L n f (by omega) _ hz n 0 j (n+1) (by omega) (by omega)
    simp only [AiM] at h
    exact h _ _
  · show (A3 _ (IL n f) (n+1) (CI _ [(2,iV 0)])).sem = _
    rw [AbJ]
    exact UH _ n f (fun k=>Au (f k)) h8 (Cc (fun k=>Au (f k)) n) _ (fun i hi=>Ze hb hi) n 0 _ (n+1) (by omega) (by omega)
noncomputable def AfD:List V->T (V × List Blk)
  | [v,.fn g []]=>apL v fun n f=>.br (Af (ilt 0 (ofNat n)) (Af (Ca n) (BL 8 (ofNat n) (ofNat n)))) (match Nat.beq g 52,Nat.beq g 54 with
    | true,_=>.leaf (.ref 0,[.row 3 1 n fun k=>iV (A0 (fun k=>Az (f k)) n k)])
    | _,true=>.leaf (.ref 0,[.row 3 1 n fun k=>iV (A0 (fun k=>Au (f k)) n k)])
    | _,_=>.fail) .fail
  | _=>.fail
theorem p53:AD Try.prog Gl 53 AfD:=by
  refine A5 AO AP Try.func53 (by kernel_rfl) (by kernel_rfl) fun vs v h' h=>?_
  unfold AfD at h
  split at h
  · rename_i u g
    obtain ⟨n,f,ha,h1⟩:=BU h
    obtain ⟨h8,hq⟩:=Ag h1
    have h8:ilt 0 (ofNat n) = true ∧ Ca n = true ∧ BL 8 (ofNat n) (ofNat n) = true:=by simpa [Af] using h8
    obtain ⟨h9,h8,hm⟩:=h8
    have h9:0 < n:=by rw [show (0:Int) = ofNat 0 from rfl,Cz] at h9; simpa using h9
    have h8':n * 8 <= 140737488355328:=of_decide_eq_true h8
    have hA:BA [u,.fn g []] [A2 n f,.fn g []]:=fun S w cs hv=>by
      obtain ⟨c,l,rfl,q1,q2⟩:=hv
      exact ⟨c,l,rfl,ha S w c q1,q2⟩
    cases h52:Nat.beq g 52 with
    | true =>
      rw [h52] at hq
      have he:=Nat.eq_of_beq_eq_true h52
      subst he
      have:=Ac hq
      simp only [Prod.mk.injEq] at this
      obtain ⟨rfl,rfl⟩:=this
      have hx:=JH tb53_ok U0 (Qi n f) (G:=Gl)
      exact ⟨_,cxZ Gl tb53 U0 (Qi n f),_,hA,rfl,hx.1,hx.2,Aai n f h9 h8' hm,AB.refl _⟩
    | false =>
      rw [h52] at hq
      cases h54:Nat.beq g 54 with
      | true =>
        rw [h54] at hq
        have he:=Nat.eq_of_beq_eq_true h54
        subst he
        have:=Ac hq
        simp only [Prod.mk.injEq] at this
        obtain ⟨rfl,rfl⟩:=this
        have hx:=JH tb53_ok Uz (Qh n f) (G:=Gl)
        exact ⟨_,cxZ Gl tb53 Uz (Qh n f),_,hA,rfl,hx.1,hx.2,Aah n f h9 h8' hm,AB.refl _⟩
      | false =>
        rw [h54] at hq
        cases hq
  · cases h
end Go.Proofs.Ytjhnfomefcngfaa.Sh
