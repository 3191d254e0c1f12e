/-
  Layer 7: the program's numbers of threads and of locations (met) are the document's parts. No conditions.
-/
import Derived.Test.YtjhnfomefcngfaaShBa
import Derived.Test.YtjhnfomefcngfaaCyR
namespace Go.Proofs.Ytjhnfomefcngfaa.Sh
open Go.Sy Ed
open Int (ofNat)
noncomputable def tb53:List (Nat × (List V->T (V × List Blk))):=[(52,edgeT fun e=>bV (outB e)),(54,edgeT fun e=>bV (movB e)),(92,indexT)]
theorem tb53_ok:AllPure Try.prog Gl tb53:=.cons p52 <| .cons p54 <| .cons p92 .nil
theorem mod_cases {a n:Nat} (h:a < 2 * n):a % n = if a < n then a else a - n:=by
  split
  · rename_i h1; exact Nat.mod_eq_of_lt h1
  · rename_i h1
    have h1:n <= a:=Nat.le_of_not_lt h1
    rw [Nat.mod_eq_sub_mod h1,Nat.mod_eq_of_lt (by omega)]
theorem pos_at {n z b:Nat} (hz:z < n) (hb:b < n):posN n z ((z+b) % n) = b:=by
  unfold posN
  rw [mod_cases (a:=z+b) (by omega)]
  split
  · rw [mod_cases (by omega)]; split <;> omega
  · rw [mod_cases (by omega)]; split <;> omega
theorem pos_inv {n z i:Nat} (hz:z < n) (hi:i < n):(z+posN n z i) % n = i:=by
  unfold posN
  rw [mod_cases (a:=i+(n - z)) (by omega)]
  split
  · rw [mod_cases (by omega)]; split <;> omega
  · rw [mod_cases (by omega)]; split <;> omega
theorem before_at {n z b:Nat} (hz:z < n) (hb:b < n):((z+(b+1)) % n+(n - 1)) % n = (z+b) % n:=by
  rcases Nat.lt_or_ge (b+1) n with h | h
  · rw [mod_cases (a:=z+(b+1)) (by omega),mod_cases (a:=z+b) (by omega)]
    split <;> split <;> (rw [mod_cases (by omega)]; split <;> omega)
  · have:b+1 = n:=by omega
    rw [this,Nat.add_mod_right,Nat.mod_eq_of_lt hz]
    rw [mod_cases (by omega),mod_cases (a:=z+b) (by omega)]
    split <;> split <;> omega
theorem ieq0 {n:Nat} (h:0 < n):ieq (ofNat n) 0 = false:=by
  simp [ieq]
  omega
theorem back_wr {a n:Nat} (hn:0 < n) (h:a+n <= 9223372036854775807):itmod (wr .i64 (isub (wr .i64 (iadd (ofNat a) (ofNat n))) 1)) (ofNat n) = ofNat ((a+(n - 1)) % n):=by
  rw [wr_add h]
  have:wr .i64 (isub (ofNat (a+n)) 1) = ofNat (a+(n - 1)):=by
    have:ofNat (a+n) = ofNat (a+(n - 1)+1):=by congr 1; omega
    rw [this]
    unfold wr isub IntKind.wrap
    simp [IntKind.bits,IntKind.signed]
    omega
  rw [this,mod_nat]
def beginN (p:Nat->Bool) (n:Nat):Nat:=match (List.range n).find? fun i=>p ((i+(n - 1)) % n) with
  | some z=>z
  | none=>0
theorem begin_at {p:Nat->Bool} {n i:Nat} (hi:i < n) (h:p ((i+(n - 1)) % n) = true) (hb:∀ k,k < i->p ((k+(n - 1)) % n) = false):beginN p n = i:=by
  unfold beginN
  have:(List.range n).find? (fun i=>p ((i+(n - 1)) % n)) = some i:=by
    rw [List.find?_range_eq_some]
    exact ⟨h,by simpa using hi,fun j hj=>by rw [hb j hj]; rfl⟩
  rw [this]
theorem begin_none {p:Nat->Bool} {n:Nat} (hb:∀ k,k < n->p ((k+(n - 1)) % n) = false):beginN p n = 0:=by
  unfold beginN
  have:(List.range n).find? (fun i=>p ((i+(n - 1)) % n)) = none:=by
    rw [List.find?_eq_none]
    intro k hk
    rw [hb k (by simpa using hk)]
    simp
  rw [this]
theorem begin_ok (p:Nat->Bool) {n:Nat} (hn:0 < n):Begin p n (beginN p n):=by
  cases h:(List.range n).find? (fun i=>p ((i+(n - 1)) % n)) with
  | none =>
    have hz:beginN p n = 0:=by unfold beginN; rw [h]
    rw [hz]
    rw [List.find?_eq_none] at h
    refine .none fun k hk=>?_
    have:=h ((k+1) % n) (by simpa using Nat.mod_lt _ hn)
    rw [show ((k+1) % n+(n - 1)) % n = k by
      rw [mod_cases (a:=k+1) (by omega)]
      split <;> (rw [mod_cases (by omega)]; split <;> omega)] at this
    simpa using this
  | some z =>
    have hz:beginN p n = z:=by unfold beginN; rw [h]
    rw [hz]
    rw [List.find?_range_eq_some] at h
    obtain ⟨h1,h2,h3⟩:=h
    have h2:z < n:=by simpa using h2
    have at':∀ k,0 < k->k < n->(k+(n - 1)) % n = k - 1:=fun k h0 hk=>by
      rw [mod_cases (by omega)]; split <;> omega
    have at0:(0+(n - 1)) % n = n - 1:=by rw [Nat.zero_add,Nat.mod_eq_of_lt (by omega)]
    rcases Nat.eq_zero_or_pos z with h0 | h0
    · subst h0
      rw [at0] at h1
      exact .last hn h1
    · rw [at' z h0 h2] at h1
      refine .first h0 h2 h1 (fun k hk=>?_) ?_
      · have:=h3 (k+1) (by omega)
        rw [at' (k+1) (by omega) (by omega)] at this
        simpa using this
      · have:=h3 0 h0
        rw [at0] at this
        simpa using this
theorem begin_lt (p:Nat->Bool) {n:Nat} (hn:0 < n):beginN p n < n:=by
  have h:=begin_ok p hn
  generalize beginN p n = z at h
  cases h with
  | none _=>exact hn
  | last _ _=>exact hn
  | first _ h _ _ _=>exact h
def gN (p:Nat->Bool) (n z b i:Nat):Int:=if i < n ∧ posN n z i < b then ofNat (cntB (turnP p n z) (posN n z i)) else 0
theorem gN_0 (p:Nat->Bool) (n z:Nat):gN p n z 0 = fun _=>0:=by
  funext i
  simp [gN]
theorem gN_succ {p:Nat->Bool} {n z b:Nat} (hz:z < n) (hb:b < n):updI (gN p n z b) ((z+b) % n) (ofNat (cntB (turnP p n z) b)) = gN p n z (b+1):=by
  funext i
  unfold updI
  by_cases hi:i = (z+b) % n
  · subst hi
    rw [show decide ((z+b) % n = (z+b) % n) = true by simp]
    simp only [cond_true]
    unfold gN
    rw [pos_at hz hb,if_pos ⟨Nat.mod_lt _ (by omega),by omega⟩]
  · rw [show decide (i = (z+b) % n) = false by simpa using hi]
    simp only [cond_false]
    unfold gN
    by_cases hin:i < n
    · have hp:posN n z i ≠ b:=fun he=>hi (by rw [<- he,pos_inv hz hin])
      by_cases h1:posN n z i < b
      · rw [if_pos ⟨hin,h1⟩,if_pos ⟨hin,by omega⟩]
      · rw [if_neg (fun h=>h1 h.2),if_neg (fun h=>by have:=h.2; omega)]
    · rw [if_neg (fun h=>hin h.1),if_neg (fun h=>hin h.1)]
theorem gN_end {p:Nat->Bool} {n z i:Nat} (hb:Begin p n z) (hi:i < n):gN p n z n i = ofNat (snN p n z (partN p n i)):=by
  unfold gN
  rw [if_pos ⟨hi,show (i+(n - z)) % n < n from Nat.mod_lt _ (by omega)⟩,part_sn hb hi]
def seenI (p:Nat->Bool) (n z b i:Nat):Int:=if i < rN p n b then ofNat (snN p n z i) else 0
def outI (p:Nat->Bool) (n b i:Nat):Int:=if i < b then partF p n i else 0
theorem outI_n (p:Nat->Bool) (n:Nat):outI p n n = partF p n:=by
  funext i
  unfold outI
  split
  · rfl
  · rename_i h
    unfold partF
    rw [show decide (i < n) = false by simpa using h]
    rfl
theorem outI_succ {p:Nat->Bool} {n b:Nat} (hb:b < n):updI (outI p n b) b (ofNat (partN p n b)) = outI p n (b+1):=by
  funext i
  unfold updI outI
  by_cases hi:i = b
  · subst hi
    rw [if_pos (Nat.lt_succ_self i),partF_N hb]
    simp
  · rw [show decide (i = b) = false by simpa using hi]
    simp only [cond_false]
    by_cases h1:i < b
    · rw [if_pos h1,if_pos (by omega)]
    · rw [if_neg h1,if_neg (by omega)]
theorem seenI_same {p:Nat->Bool} {n z b:Nat} (h:partN p n b < rN p n b):seenI p n z (b+1) = seenI p n z b ∧ rN p n (b+1) = rN p n b:=by
  have:rN p n (b+1) = rN p n b:=by rw [rN,if_pos h]
  exact ⟨by funext i; unfold seenI; rw [this],this⟩
theorem seenI_new {p:Nat->Bool} {n z b:Nat} (h:partN p n b = rN p n b):pushGet (rN p n b) (fun i=>iV (seenI p n z b i)) (iV (ofNat (snN p n z (partN p n b)))) = (fun i=>iV (seenI p n z (b+1) i)) ∧ rN p n (b+1) = rN p n b+1:=by
  have hr:rN p n (b+1) = rN p n b+1:=by rw [rN,if_neg (by omega)]
  refine ⟨?_,hr⟩
  funext k
  rw [pushGet_eq,show Nat.beq k (rN p n b) = decide (k = rN p n b) by rw [Bool.eq_iff_iff]; simp]
  unfold seenI
  rw [hr]
  by_cases hk:k = rN p n b
  · rw [hk,h]; simp
  · by_cases h2:k < rN p n b
    · have:k < rN p n b+1:=by omega
      simp [hk,h2,this]
    · have:¬ k < rN p n b+1:=by omega
      simp [hk,h2,this]
theorem seen_old {p:Nat->Bool} {n z b:Nat} (hb:b < n) (h:partN p n b < rN p n b):idxI (rN p n b) (seenI p n z b) (ofNat (snN p n z (partN p n b))) = ofNat (partN p n b):=by
  refine idx_found h ?_ fun k hk=>?_
  · unfold seenI
    rw [if_pos h]
    simp [ieq]
  · unfold seenI
    rw [if_pos (by omega)]
    have:=rN_lt p n b (by omega) _ h
    cases he:ieq (ofNat (snN p n z (partN p n b))) (ofNat (snN p n z k)) with
    | false=>rfl
    | true =>
      have he:=Int.ofNat.inj ((beq_iff_eq (α:=Int)).1 he)
      have:=sn_inj (p:=p) (n:=n) (z:=z) (Nat.le_of_lt hk) this he.symm
      omega
theorem seen_new {p:Nat->Bool} {n z b:Nat} (hb:b < n) (h:partN p n b = rN p n b):idxI (rN p n b) (seenI p n z b) (ofNat (snN p n z (partN p n b))) = -1:=by
  refine idx_none fun k hk=>?_
  unfold seenI
  rw [if_pos hk]
  cases he:ieq (ofNat (snN p n z (partN p n b))) (ofNat (snN p n z k)) with
  | false=>rfl
  | true =>
    have he:=Int.ofNat.inj ((beq_iff_eq (α:=Int)).1 he)
    have:=sn_inj (p:=p) (n:=n) (z:=z) (show k <= partN p n b by omega) (partN_lt (by omega)) he.symm
    omega
def lp53u (n:Nat) (f:Nat->E6):Lp:=⟨(bmK 97 0 [0,1,4,5,6,18,19]),1,(bmK 97 0 [0,1,4,5,6]),1,n+1⟩
def st53u (n:Nat) (f:Nat->E6) (b:Nat) (j:Nat->V):St:=⟨(jsV 97 0 j [(0,.sl 6 n fun i=>eV (f i)),(1,.fn 52 []),(4,.ref 0),(5,nV n),(6,iV 0),(18,nV n),(19,nV b)]),[.row 3 1 0 (fun _=>.und)]⟩
def en53uf (n:Nat) (f:Nat->E6) (b:Nat):Ex × St:=(.ex 0,⟨(jsV 97 0 (fun _=>.und) [(0,.sl 6 n fun i=>eV (f i)),(1,.fn 52 []),(4,.ref 0),(5,nV n),(6,nV b)]),[.row 3 1 0 (fun _=>.und)]⟩)
noncomputable def body53u (L:LT):St->T (Ex × St):=fun st=>evalC tab ⟨callT tb53,L,Gl⟩ (loopBody Try.f53 0) 0 st
section
variable (L:LT) (n:Nat) (f:Nat->E6) (b:Nat)  (j:Nat->V)
include L n f b j
theorem rm53fu (h0:ilt (ofNat b) (ofNat n) = true) (h1:ieq (ofNat n) 0 = false) (h13:band (ile 0 (itmod (wr .i64 (isub (wr .i64 (iadd (ofNat b) (ofNat n))) 1)) (ofNat n))) (ilt (itmod (wr .i64 (isub (wr .i64 (iadd (ofNat b) (ofNat n))) 1)) (ofNat n)) (ofNat n)) = true) (h2:outB (f (toN (itmod (wr .i64 (isub (wr .i64 (iadd (ofNat b) (ofNat n))) 1)) (ofNat n)))) = false):roundT (body53u L) (lp53u n f) (st53u n f b j) = some (.nm,⟨(jsV 97 0 (fun _=>.und) [(0,(.sl 6 n (fun i=>(eV (f i))))),(1,(.fn 52 [])),(4,(.ref 0)),(5,(nV n)),(6,(iV 0)),(18,(nV n)),(19,(iV (wr .i64 (iadd (ofNat b) 1))))]),[(.row 3 1 0 (fun _=>.und))]⟩):=by
  exact sem_of_path (ds:=[true,false,true,false]) (cs:=[(ilt (ofNat b) (ofNat n)),(ieq (ofNat n) 0),(band (ile 0 (itmod (wr .i64 (isub (wr .i64 (iadd (ofNat b) (ofNat n))) 1)) (ofNat n))) (ilt (itmod (wr .i64 (isub (wr .i64 (iadd (ofNat b) (ofNat n))) 1)) (ofNat n)) (ofNat n))),(outB (f (toN (itmod (wr .i64 (isub (wr .i64 (iadd (ofNat b) (ofNat n))) 1)) (ofNat n)))))]) (by kernel_rfl) (by simp only [h13] <;> simp only [h0,h1,h2] <;> rfl)
theorem rm53tu (h0:ilt (ofNat b) (ofNat n) = true) (h1:ieq (ofNat n) 0 = false) (h13:band (ile 0 (itmod (wr .i64 (isub (wr .i64 (iadd (ofNat b) (ofNat n))) 1)) (ofNat n))) (ilt (itmod (wr .i64 (isub (wr .i64 (iadd (ofNat b) (ofNat n))) 1)) (ofNat n)) (ofNat n)) = true) (h2:outB (f (toN (itmod (wr .i64 (isub (wr .i64 (iadd (ofNat b) (ofNat n))) 1)) (ofNat n)))) = true):roundT (body53u L) (lp53u n f) (st53u n f b j) = some ((.ex 0),⟨(jsV 97 0 (fun _=>.und) [(0,(.sl 6 n (fun i=>(eV (f i))))),(1,(.fn 52 [])),(4,(.ref 0)),(5,(nV n)),(6,(nV b))]),[(.row 3 1 0 (fun _=>.und))]⟩):=by
  exact sem_of_path (ds:=[true,false,true,true]) (cs:=[(ilt (ofNat b) (ofNat n)),(ieq (ofNat n) 0),(band (ile 0 (itmod (wr .i64 (isub (wr .i64 (iadd (ofNat b) (ofNat n))) 1)) (ofNat n))) (ilt (itmod (wr .i64 (isub (wr .i64 (iadd (ofNat b) (ofNat n))) 1)) (ofNat n)) (ofNat n))),(outB (f (toN (itmod (wr .i64 (isub (wr .i64 (iadd (ofNat b) (ofNat n))) 1)) (ofNat n)))))]) (by kernel_rfl) (by simp only [h13] <;> simp only [h0,h1,h2] <;> rfl)
theorem rm53eu (h0:ilt (ofNat b) (ofNat n) = false):roundT (body53u L) (lp53u n f) (st53u n f b j) = some ((.ex 0),⟨(jsV 97 0 (fun _=>.und) [(0,(.sl 6 n (fun i=>(eV (f i))))),(1,(.fn 52 [])),(4,(.ref 0)),(5,(nV n)),(6,(iV 0))]),[(.row 3 1 0 (fun _=>.und))]⟩):=by
  exact sem_of_path (ds:=[false]) (cs:=[(ilt (ofNat b) (ofNat n))]) (by kernel_rfl) (by simp only [h0] <;> rfl)
end
def jk53u (n:Nat) (f:Nat->E6) :Nat->V:=lkV undefV [(16,(.sl 6 n (fun i=>(eV (f i))))),(17,(nV n))]
def lp53_2u (n:Nat) (f:Nat->E6):Lp:=⟨(bmK 97 0 [0,1,4,5,6,8,9,37,38]),2,(bmK 97 0 [0,1,4,5,8]),2,n+1⟩
def st53_2u (n:Nat) (f:Nat->E6) (z b k:Nat) (g:Nat->Int) (j:Nat->V):St:=⟨(jsV 97 0 j [(0,.sl 6 n fun i=>eV (f i)),(1,.fn 52 []),(4,.ref 0),(5,nV n),(6,nV z),(8,.ref 1),(9,nV k),(37,nV n),(38,nV b)]),[.row 3 1 0 (fun _=>.und),.row 3 1 n (fun i=>iV (g i))]⟩
def en53_2ue (n:Nat) (f:Nat->E6) (z b k:Nat) (g:Nat->Int):Ex × St:=(.ex 2,⟨(jsV 97 0 (fun _=>.und) [(0,.sl 6 n fun i=>eV (f i)),(1,.fn 52 []),(4,.ref 0),(5,nV n),(8,.ref 1)]),[.row 3 1 0 (fun _=>.und),.row 3 1 n (fun i=>iV (g i))]⟩)
noncomputable def body53_2u (L:LT):St->T (Ex × St):=fun st=>evalC tab ⟨callT tb53,L,Gl⟩ (loopBody Try.f53 2) 2 st
section
variable (L:LT) (n:Nat) (f:Nat->E6) (z b k:Nat) (g:Nat->Int)  (j:Nat->V)
include L n f z b k g j
theorem rq53zu (h0:ilt (ofNat b) (ofNat n) = true) (h1:ieq (ofNat n) 0 = false) (h2:ilt 0 (ofNat b) = false) (h13:band (ile 0 (itmod (wr .i64 (iadd (ofNat z) (ofNat b))) (ofNat n))) (ilt (itmod (wr .i64 (iadd (ofNat z) (ofNat b))) (ofNat n)) (ofNat n)) = true) (h14:nlt (toN (itmod (wr .i64 (iadd (ofNat z) (ofNat b))) (ofNat n))) n = true):roundT (body53_2u L) (lp53_2u n f) (st53_2u n f z b k g j) = some (.nm,⟨(jsV 97 0 (fun _=>.und) [(0,(.sl 6 n (fun i=>(eV (f i))))),(1,(.fn 52 [])),(4,(.ref 0)),(5,(nV n)),(6,(nV z)),(8,(.ref 1)),(9,(nV k)),(37,(nV n)),(38,(iV (wr .i64 (iadd (ofNat b) 1))))]),[(.row 3 1 0 (fun _=>.und)),(.row 3 1 n (setGet (fun i=>(iV (g i))) (toN (itmod (wr .i64 (iadd (ofNat z) (ofNat b))) (ofNat n))) (nV k)))]⟩):=by
  exact sem_of_path (ds:=bbK 17 98305) (cs:=((fun c0=>[(ilt (ofNat b) (ofNat n)),(ieq (ofNat n) 0),c0,c0,c0,c0,c0,c0,c0,c0,c0,c0,c0,c0,false,(band (ile 0 (itmod (wr .i64 (iadd (ofNat z) (ofNat b))) (ofNat n))) (ilt (itmod (wr .i64 (iadd (ofNat z) (ofNat b))) (ofNat n)) (ofNat n))),(nlt (toN (itmod (wr .i64 (iadd (ofNat z) (ofNat b))) (ofNat n))) n)]) (ilt 0 (ofNat b)))) (by kernel_rfl) (by simp only [h13] <;> simp only [h0,h1,h2,h14] <;> rfl)
theorem rq53fu (h0:ilt (ofNat b) (ofNat n) = true) (h1:ieq (ofNat n) 0 = false) (h2:ilt 0 (ofNat b) = true) (h14:band (ile 0 (itmod (wr .i64 (isub (wr .i64 (iadd (itmod (wr .i64 (iadd (ofNat z) (ofNat b))) (ofNat n)) (ofNat n))) 1)) (ofNat n))) (ilt (itmod (wr .i64 (isub (wr .i64 (iadd (itmod (wr .i64 (iadd (ofNat z) (ofNat b))) (ofNat n)) (ofNat n))) 1)) (ofNat n)) (ofNat n)) = true) (h3:outB (f (toN (itmod (wr .i64 (isub (wr .i64 (iadd (itmod (wr .i64 (iadd (ofNat z) (ofNat b))) (ofNat n)) (ofNat n))) 1)) (ofNat n)))) = false) (h16:band (ile 0 (itmod (wr .i64 (iadd (ofNat z) (ofNat b))) (ofNat n))) (ilt (itmod (wr .i64 (iadd (ofNat z) (ofNat b))) (ofNat n)) (ofNat n)) = true) (h17:nlt (toN (itmod (wr .i64 (iadd (ofNat z) (ofNat b))) (ofNat n))) n = true):roundT (body53_2u L) (lp53_2u n f) (st53_2u n f z b k g j) = some (.nm,⟨(jsV 97 0 (fun _=>.und) [(0,(.sl 6 n (fun i=>(eV (f i))))),(1,(.fn 52 [])),(4,(.ref 0)),(5,(nV n)),(6,(nV z)),(8,(.ref 1)),(9,(nV k)),(37,(nV n)),(38,(iV (wr .i64 (iadd (ofNat b) 1))))]),[(.row 3 1 0 (fun _=>.und)),(.row 3 1 n (setGet (fun i=>(iV (g i))) (toN (itmod (wr .i64 (iadd (ofNat z) (ofNat b))) (ofNat n))) (nV k)))]⟩):=by
  exact sem_of_path (ds:=bbK 19 457725) (cs:=((fun c0 c1=>[(ilt (ofNat b) (ofNat n)),c0,c1,c1,c1,c1,c1,c1,c1,c1,c0,c1,(band (ile 0 (itmod (wr .i64 (isub (wr .i64 (iadd (itmod (wr .i64 (iadd (ofNat z) (ofNat b))) (ofNat n)) (ofNat n))) 1)) (ofNat n))) (ilt (itmod (wr .i64 (isub (wr .i64 (iadd (itmod (wr .i64 (iadd (ofNat z) (ofNat b))) (ofNat n)) (ofNat n))) 1)) (ofNat n)) (ofNat n))),c1,c1,c1,(outB (f (toN (itmod (wr .i64 (isub (wr .i64 (iadd (itmod (wr .i64 (iadd (ofNat z) (ofNat b))) (ofNat n)) (ofNat n))) 1)) (ofNat n))))),(band (ile 0 (itmod (wr .i64 (iadd (ofNat z) (ofNat b))) (ofNat n))) (ilt (itmod (wr .i64 (iadd (ofNat z) (ofNat b))) (ofNat n)) (ofNat n))),(nlt (toN (itmod (wr .i64 (iadd (ofNat z) (ofNat b))) (ofNat n))) n)]) (ieq (ofNat n) 0) (ilt 0 (ofNat b)))) (by kernel_rfl) (by simp only [h14,h16] <;> simp only [h0,h1,h2,h3,h17] <;> rfl)
theorem rq53tu (h0:ilt (ofNat b) (ofNat n) = true) (h1:ieq (ofNat n) 0 = false) (h2:ilt 0 (ofNat b) = true) (h14:band (ile 0 (itmod (wr .i64 (isub (wr .i64 (iadd (itmod (wr .i64 (iadd (ofNat z) (ofNat b))) (ofNat n)) (ofNat n))) 1)) (ofNat n))) (ilt (itmod (wr .i64 (isub (wr .i64 (iadd (itmod (wr .i64 (iadd (ofNat z) (ofNat b))) (ofNat n)) (ofNat n))) 1)) (ofNat n)) (ofNat n)) = true) (h3:outB (f (toN (itmod (wr .i64 (isub (wr .i64 (iadd (itmod (wr .i64 (iadd (ofNat z) (ofNat b))) (ofNat n)) (ofNat n))) 1)) (ofNat n)))) = true) (h16:band (ile 0 (itmod (wr .i64 (iadd (ofNat z) (ofNat b))) (ofNat n))) (ilt (itmod (wr .i64 (iadd (ofNat z) (ofNat b))) (ofNat n)) (ofNat n)) = true) (h17:nlt (toN (itmod (wr .i64 (iadd (ofNat z) (ofNat b))) (ofNat n))) n = true):roundT (body53_2u L) (lp53_2u n f) (st53_2u n f z b k g j) = some (.nm,⟨(jsV 97 0 (fun _=>.und) [(0,(.sl 6 n (fun i=>(eV (f i))))),(1,(.fn 52 [])),(4,(.ref 0)),(5,(nV n)),(6,(nV z)),(8,(.ref 1)),(9,(iV (wr .i64 (iadd (ofNat k) 1)))),(37,(nV n)),(38,(iV (wr .i64 (iadd (ofNat b) 1))))]),[(.row 3 1 0 (fun _=>.und)),(.row 3 1 n (setGet (fun i=>(iV (g i))) (toN (itmod (wr .i64 (iadd (ofNat z) (ofNat b))) (ofNat n))) (iV (wr .i64 (iadd (ofNat k) 1)))))]⟩):=by
  exact sem_of_path (ds:=bbK 19 523261) (cs:=((fun c0 c1=>[(ilt (ofNat b) (ofNat n)),c0,c1,c1,c1,c1,c1,c1,c1,c1,c0,c1,(band (ile 0 (itmod (wr .i64 (isub (wr .i64 (iadd (itmod (wr .i64 (iadd (ofNat z) (ofNat b))) (ofNat n)) (ofNat n))) 1)) (ofNat n))) (ilt (itmod (wr .i64 (isub (wr .i64 (iadd (itmod (wr .i64 (iadd (ofNat z) (ofNat b))) (ofNat n)) (ofNat n))) 1)) (ofNat n)) (ofNat n))),c1,c1,c1,(outB (f (toN (itmod (wr .i64 (isub (wr .i64 (iadd (itmod (wr .i64 (iadd (ofNat z) (ofNat b))) (ofNat n)) (ofNat n))) 1)) (ofNat n))))),(band (ile 0 (itmod (wr .i64 (iadd (ofNat z) (ofNat b))) (ofNat n))) (ilt (itmod (wr .i64 (iadd (ofNat z) (ofNat b))) (ofNat n)) (ofNat n))),(nlt (toN (itmod (wr .i64 (iadd (ofNat z) (ofNat b))) (ofNat n))) n)]) (ieq (ofNat n) 0) (ilt 0 (ofNat b)))) (by kernel_rfl) (by simp only [h14,h16] <;> simp only [h0,h1,h2,h3,h17] <;> rfl)
theorem rq53eu (h0:ilt (ofNat b) (ofNat n) = false):roundT (body53_2u L) (lp53_2u n f) (st53_2u n f z b k g j) = some ((.ex 2),⟨(jsV 97 0 (fun _=>.und) [(0,(.sl 6 n (fun i=>(eV (f i))))),(1,(.fn 52 [])),(4,(.ref 0)),(5,(nV n)),(8,(.ref 1))]),[(.row 3 1 0 (fun _=>.und)),(.row 3 1 n (fun i=>(iV (g i))))]⟩):=by
  exact sem_of_path (ds:=[false]) (cs:=[(ilt (ofNat b) (ofNat n))]) (by kernel_rfl) (by simp only [h0] <;> rfl)
end
def em53u (n:Nat) (f:Nat->E6) (z:Nat):St:=⟨(jsV 97 0 (fun _=>.und) [(0,(.sl 6 n (fun i=>(eV (f i))))),(1,(.fn 52 [])),(4,(.ref 0)),(5,(nV n)),(6,(nV z)),(8,(.ref 1)),(9,(iV 0)),(35,(nV n)),(36,(.ref 1)),(37,(nV n)),(38,(iV 0))]),[(.row 3 1 0 (fun _=>.und)),(.row 3 1 n (fun _=>(iV 0)))]⟩
def lp53_4u (n:Nat) (f:Nat->E6):Lp:=⟨(bmK 97 0 [4,8,12,13,70,71]),4,(bmK 97 0 [13]),4,n+1⟩
def st53_4u (n:Nat) (f:Nat->E6) (b r:Nat) (g s o:Nat->Int) (j:Nat->V):St:=⟨(jsV 97 0 j [(4,.ref 0),(8,.ref 1),(12,.ref 2),(13,.ref 3),(70,nV n),(71,nV b)]),[.row 3 1 0 (fun _=>.und),.row 3 1 n (fun i=>iV (g i)),.row 3 1 r (fun i=>iV (s i)),.row 3 1 n (fun i=>iV (o i))]⟩
def en53_4ue (n:Nat) (f:Nat->E6) (b r:Nat) (g s o:Nat->Int):Ex × St:=(.ex 4,⟨(jsV 97 0 (fun _=>.und) [(13,.ref 3)]),[.row 3 1 0 (fun _=>.und),.row 3 1 n (fun i=>iV (g i)),.row 3 1 r (fun i=>iV (s i)),.row 3 1 n (fun i=>iV (o i))]⟩)
noncomputable def body53_4u (L:LT):St->T (Ex × St):=fun st=>evalC tab ⟨callT tb53,L,Gl⟩ (loopBody Try.f53 4) 4 st
section
variable (L:LT) (n:Nat) (f:Nat->E6) (b r:Nat) (g s o:Nat->Int)  (j:Nat->V)
include L n f b r g s o j
theorem rs53ou (h0:ilt (ofNat b) (ofNat n) = true) (h13:ile 0 (ofNat b) = true) (h1:nlt b n = true) (h2:fit8 r = true) (h3:ilt (idxI r s (g b)) 0 = false):roundT (body53_4u L) (lp53_4u n f) (st53_4u n f b r g s o j) = some (.nm,⟨(jsV 97 0 (fun _=>.und) [(4,(.ref 0)),(8,(.ref 1)),(12,(.ref 2)),(13,(.ref 3)),(70,(nV n)),(71,(iV (wr .i64 (iadd (ofNat b) 1))))]),[(.row 3 1 0 (fun _=>.und)),(.row 3 1 n (fun i=>(iV (g i)))),(.row 3 1 r (fun i=>(iV (s i)))),(.row 3 1 n (setGet (fun i=>(iV (o i))) b (iV (idxI r s (g b)))))]⟩):=by
  exact sem_of_path (ds:=bbK 8 223) (cs:=((fun c0 c1=>[(ilt (ofNat b) (ofNat n)),c0,c1,(allN r (fun _=>true)),(fit8 r),(ilt (idxI r s (g b)) 0),c0,c1]) (band (ile 0 (ofNat b)) (ilt (ofNat b) (ofNat n))) (nlt b n))) (by kernel_rfl) (by simp only [h0,h13,h1,h2,h3,allN_true] <;> rfl)
theorem rs53nu (h0:ilt (ofNat b) (ofNat n) = true) (h13:ile 0 (ofNat b) = true) (h1:nlt b n = true) (h2:fit8 r = true) (h3:ilt (idxI r s (g b)) 0 = true) (h14:apOK r 1 8 = true):roundT (body53_4u L) (lp53_4u n f) (st53_4u n f b r g s o j) = some (.nm,⟨(jsV 97 0 (fun _=>.und) [(4,(.ref 0)),(8,(.ref 1)),(12,(.ref 2)),(13,(.ref 3)),(70,(nV n)),(71,(iV (wr .i64 (iadd (ofNat b) 1))))]),[(.row 3 1 0 (fun _=>.und)),(.row 3 1 n (fun i=>(iV (g i)))),(.row 3 1 (nadd r 1) (pushGet r (fun i=>(iV (s i))) (iV (g b)))),(.row 3 1 n (setGet (fun i=>(iV (o i))) b (nV r)))]⟩):=by
  exact sem_of_path (ds:=bbK 11 2047) (cs:=((fun c0 c1=>[(ilt (ofNat b) (ofNat n)),c0,c1,(allN r (fun _=>true)),(fit8 r),(ilt (idxI r s (g b)) 0),c0,c1,(apOK r 1 8),c0,c1]) (band (ile 0 (ofNat b)) (ilt (ofNat b) (ofNat n))) (nlt b n))) (by kernel_rfl) (by simp only [h0,h13,h1,h2,h3,h14,allN_true] <;> rfl)
theorem rs53eu (h0:ilt (ofNat b) (ofNat n) = false):roundT (body53_4u L) (lp53_4u n f) (st53_4u n f b r g s o j) = some ((.ex 4),⟨(jsV 97 0 (fun _=>.und) [(13,(.ref 3))]),[(.row 3 1 0 (fun _=>.und)),(.row 3 1 n (fun i=>(iV (g i)))),(.row 3 1 r (fun i=>(iV (s i)))),(.row 3 1 n (fun i=>(iV (o i))))]⟩):=by
  exact sem_of_path (ds:=[false]) (cs:=[(ilt (ofNat b) (ofNat n))]) (by kernel_rfl) (by simp only [h0] <;> rfl)
end
def es53u (n:Nat) (f:Nat->E6) (z:Nat) (g:Nat->Int):St:=⟨(jsV 97 0 (fun _=>.und) [(0,(.sl 6 n (fun i=>(eV (f i))))),(1,(.fn 52 [])),(4,(.ref 0)),(5,(nV n)),(8,(.ref 1)),(12,(.ref 2)),(13,(.ref 3)),(68,(nV n)),(69,(.ref 3)),(70,(nV n)),(71,(iV 0))]),[(.row 3 1 0 (fun _=>.und)),(.row 3 1 n (fun i=>(iV (g i)))),(.row 3 1 0 (fun _=>.und)),(.row 3 1 n (fun _=>(iV 0)))]⟩
theorem wm53u (L:LT) (p0:PT) (p2:PT) (p4:PT) (n:Nat) (f:Nat->E6) (z:Nat) (g:Nat->Int) (r:Nat) (gg ss o:Nat->Int) (h0:mkOK 8 (ofNat n) (ofNat n) = true) (hp0:p0 (body53u (onP 0 p0 (en53uf n f z) (onP 2 p2 (en53_2ue n f z 0 0 g) (onP 4 p4 (en53_4ue n f 0 r gg ss o) L)))) (st53u n f 0 (jk53u n f )) = true) (hp2:p2 (body53_2u (onP 0 p0 (en53uf n f z) (onP 2 p2 (en53_2ue n f z 0 0 g) (onP 4 p4 (en53_4ue n f 0 r gg ss o) L)))) (em53u n f z) = true) (hp4:p4 (body53_4u (onP 0 p0 (en53uf n f z) (onP 2 p2 (en53_2ue n f z 0 0 g) (onP 4 p4 (en53_4ue n f 0 r gg ss o) L)))) (es53u n f z g) = true):(finF (evalF tab ⟨callT tb53,(onP 0 p0 (en53uf n f z) (onP 2 p2 (en53_2ue n f z 0 0 g) (onP 4 p4 (en53_4ue n f 0 r gg ss o) L))),Gl⟩ Try.f53 [.sl 6 n fun i=>eV (f i),.fn 52 []] [])).sem = some ((.ref 0),[(.row 3 1 n (fun i=>(iV (o i))))]):=by
  exact sem_of_path (ds:=[true,true,true,true,true]) (cs:=[(p0 (body53u (onP 0 p0 (en53uf n f z) (onP 2 p2 (en53_2ue n f z 0 0 g) (onP 4 p4 (en53_4ue n f 0 r gg ss o) L)))) (st53u n f 0 (jk53u n f ))),(mkOK 8 (ofNat n) (ofNat n)),(p2 (body53_2u (onP 0 p0 (en53uf n f z) (onP 2 p2 (en53_2ue n f z 0 0 g) (onP 4 p4 (en53_4ue n f 0 r gg ss o) L)))) (em53u n f z)),(mkOK 8 (ofNat n) (ofNat n)),(p4 (body53_4u (onP 0 p0 (en53uf n f z) (onP 2 p2 (en53_2ue n f z 0 0 g) (onP 4 p4 (en53_4ue n f 0 r gg ss o) L)))) (es53u n f z g))]) (by kernel_rfl) (by simp only [hp0,hp2,hp4] <;> simp only [h0] <;> rfl)
def lp53v (n:Nat) (f:Nat->E6):Lp:=⟨(bmK 97 0 [0,1,4,5,6,18,19]),1,(bmK 97 0 [0,1,4,5,6]),1,n+1⟩
def st53v (n:Nat) (f:Nat->E6) (b:Nat) (j:Nat->V):St:=⟨(jsV 97 0 j [(0,.sl 6 n fun i=>eV (f i)),(1,.fn 54 []),(4,.ref 0),(5,nV n),(6,iV 0),(18,nV n),(19,nV b)]),[.row 3 1 0 (fun _=>.und)]⟩
def en53vf (n:Nat) (f:Nat->E6) (b:Nat):Ex × St:=(.ex 0,⟨(jsV 97 0 (fun _=>.und) [(0,.sl 6 n fun i=>eV (f i)),(1,.fn 54 []),(4,.ref 0),(5,nV n),(6,nV b)]),[.row 3 1 0 (fun _=>.und)]⟩)
noncomputable def body53v (L:LT):St->T (Ex × St):=fun st=>evalC tab ⟨callT tb53,L,Gl⟩ (loopBody Try.f53 0) 0 st
section
variable (L:LT) (n:Nat) (f:Nat->E6) (b:Nat)  (j:Nat->V)
include L n f b j
theorem rm53fv (h0:ilt (ofNat b) (ofNat n) = true) (h1:ieq (ofNat n) 0 = false) (h13:band (ile 0 (itmod (wr .i64 (isub (wr .i64 (iadd (ofNat b) (ofNat n))) 1)) (ofNat n))) (ilt (itmod (wr .i64 (isub (wr .i64 (iadd (ofNat b) (ofNat n))) 1)) (ofNat n)) (ofNat n)) = true) (h2:movB (f (toN (itmod (wr .i64 (isub (wr .i64 (iadd (ofNat b) (ofNat n))) 1)) (ofNat n)))) = false):roundT (body53v L) (lp53v n f) (st53v n f b j) = some (.nm,⟨(jsV 97 0 (fun _=>.und) [(0,(.sl 6 n (fun i=>(eV (f i))))),(1,(.fn 54 [])),(4,(.ref 0)),(5,(nV n)),(6,(iV 0)),(18,(nV n)),(19,(iV (wr .i64 (iadd (ofNat b) 1))))]),[(.row 3 1 0 (fun _=>.und))]⟩):=by
  exact sem_of_path (ds:=[true,false,true,false]) (cs:=[(ilt (ofNat b) (ofNat n)),(ieq (ofNat n) 0),(band (ile 0 (itmod (wr .i64 (isub (wr .i64 (iadd (ofNat b) (ofNat n))) 1)) (ofNat n))) (ilt (itmod (wr .i64 (isub (wr .i64 (iadd (ofNat b) (ofNat n))) 1)) (ofNat n)) (ofNat n))),(movB (f (toN (itmod (wr .i64 (isub (wr .i64 (iadd (ofNat b) (ofNat n))) 1)) (ofNat n)))))]) (by kernel_rfl) (by simp only [h13] <;> simp only [h0,h1,h2] <;> rfl)
theorem rm53tv (h0:ilt (ofNat b) (ofNat n) = true) (h1:ieq (ofNat n) 0 = false) (h13:band (ile 0 (itmod (wr .i64 (isub (wr .i64 (iadd (ofNat b) (ofNat n))) 1)) (ofNat n))) (ilt (itmod (wr .i64 (isub (wr .i64 (iadd (ofNat b) (ofNat n))) 1)) (ofNat n)) (ofNat n)) = true) (h2:movB (f (toN (itmod (wr .i64 (isub (wr .i64 (iadd (ofNat b) (ofNat n))) 1)) (ofNat n)))) = true):roundT (body53v L) (lp53v n f) (st53v n f b j) = some ((.ex 0),⟨(jsV 97 0 (fun _=>.und) [(0,(.sl 6 n (fun i=>(eV (f i))))),(1,(.fn 54 [])),(4,(.ref 0)),(5,(nV n)),(6,(nV b))]),[(.row 3 1 0 (fun _=>.und))]⟩):=by
  exact sem_of_path (ds:=[true,false,true,true]) (cs:=[(ilt (ofNat b) (ofNat n)),(ieq (ofNat n) 0),(band (ile 0 (itmod (wr .i64 (isub (wr .i64 (iadd (ofNat b) (ofNat n))) 1)) (ofNat n))) (ilt (itmod (wr .i64 (isub (wr .i64 (iadd (ofNat b) (ofNat n))) 1)) (ofNat n)) (ofNat n))),(movB (f (toN (itmod (wr .i64 (isub (wr .i64 (iadd (ofNat b) (ofNat n))) 1)) (ofNat n)))))]) (by kernel_rfl) (by simp only [h13] <;> simp only [h0,h1,h2] <;> rfl)
theorem rm53ev (h0:ilt (ofNat b) (ofNat n) = false):roundT (body53v L) (lp53v n f) (st53v n f b j) = some ((.ex 0),⟨(jsV 97 0 (fun _=>.und) [(0,(.sl 6 n (fun i=>(eV (f i))))),(1,(.fn 54 [])),(4,(.ref 0)),(5,(nV n)),(6,(iV 0))]),[(.row 3 1 0 (fun _=>.und))]⟩):=by
  exact sem_of_path (ds:=[false]) (cs:=[(ilt (ofNat b) (ofNat n))]) (by kernel_rfl) (by simp only [h0] <;> rfl)
end
def jk53v (n:Nat) (f:Nat->E6) :Nat->V:=lkV undefV [(16,(.sl 6 n (fun i=>(eV (f i))))),(17,(nV n))]
def lp53_2v (n:Nat) (f:Nat->E6):Lp:=⟨(bmK 97 0 [0,1,4,5,6,8,9,37,38]),2,(bmK 97 0 [0,1,4,5,8]),2,n+1⟩
def st53_2v (n:Nat) (f:Nat->E6) (z b k:Nat) (g:Nat->Int) (j:Nat->V):St:=⟨(jsV 97 0 j [(0,.sl 6 n fun i=>eV (f i)),(1,.fn 54 []),(4,.ref 0),(5,nV n),(6,nV z),(8,.ref 1),(9,nV k),(37,nV n),(38,nV b)]),[.row 3 1 0 (fun _=>.und),.row 3 1 n (fun i=>iV (g i))]⟩
def en53_2ve (n:Nat) (f:Nat->E6) (z b k:Nat) (g:Nat->Int):Ex × St:=(.ex 2,⟨(jsV 97 0 (fun _=>.und) [(0,.sl 6 n fun i=>eV (f i)),(1,.fn 54 []),(4,.ref 0),(5,nV n),(8,.ref 1)]),[.row 3 1 0 (fun _=>.und),.row 3 1 n (fun i=>iV (g i))]⟩)
noncomputable def body53_2v (L:LT):St->T (Ex × St):=fun st=>evalC tab ⟨callT tb53,L,Gl⟩ (loopBody Try.f53 2) 2 st
section
variable (L:LT) (n:Nat) (f:Nat->E6) (z b k:Nat) (g:Nat->Int)  (j:Nat->V)
include L n f z b k g j
theorem rq53zv (h0:ilt (ofNat b) (ofNat n) = true) (h1:ieq (ofNat n) 0 = false) (h2:ilt 0 (ofNat b) = false) (h13:band (ile 0 (itmod (wr .i64 (iadd (ofNat z) (ofNat b))) (ofNat n))) (ilt (itmod (wr .i64 (iadd (ofNat z) (ofNat b))) (ofNat n)) (ofNat n)) = true) (h14:nlt (toN (itmod (wr .i64 (iadd (ofNat z) (ofNat b))) (ofNat n))) n = true):roundT (body53_2v L) (lp53_2v n f) (st53_2v n f z b k g j) = some (.nm,⟨(jsV 97 0 (fun _=>.und) [(0,(.sl 6 n (fun i=>(eV (f i))))),(1,(.fn 54 [])),(4,(.ref 0)),(5,(nV n)),(6,(nV z)),(8,(.ref 1)),(9,(nV k)),(37,(nV n)),(38,(iV (wr .i64 (iadd (ofNat b) 1))))]),[(.row 3 1 0 (fun _=>.und)),(.row 3 1 n (setGet (fun i=>(iV (g i))) (toN (itmod (wr .i64 (iadd (ofNat z) (ofNat b))) (ofNat n))) (nV k)))]⟩):=by
  exact sem_of_path (ds:=bbK 17 98305) (cs:=((fun c0=>[(ilt (ofNat b) (ofNat n)),(ieq (ofNat n) 0),c0,c0,c0,c0,c0,c0,c0,c0,c0,c0,c0,c0,false,(band (ile 0 (itmod (wr .i64 (iadd (ofNat z) (ofNat b))) (ofNat n))) (ilt (itmod (wr .i64 (iadd (ofNat z) (ofNat b))) (ofNat n)) (ofNat n))),(nlt (toN (itmod (wr .i64 (iadd (ofNat z) (ofNat b))) (ofNat n))) n)]) (ilt 0 (ofNat b)))) (by kernel_rfl) (by simp only [h13] <;> simp only [h0,h1,h2,h14] <;> rfl)
theorem rq53fv (h0:ilt (ofNat b) (ofNat n) = true) (h1:ieq (ofNat n) 0 = false) (h2:ilt 0 (ofNat b) = true) (h14:band (ile 0 (itmod (wr .i64 (isub (wr .i64 (iadd (itmod (wr .i64 (iadd (ofNat z) (ofNat b))) (ofNat n)) (ofNat n))) 1)) (ofNat n))) (ilt (itmod (wr .i64 (isub (wr .i64 (iadd (itmod (wr .i64 (iadd (ofNat z) (ofNat b))) (ofNat n)) (ofNat n))) 1)) (ofNat n)) (ofNat n)) = true) (h3:movB (f (toN (itmod (wr .i64 (isub (wr .i64 (iadd (itmod (wr .i64 (iadd (ofNat z) (ofNat b))) (ofNat n)) (ofNat n))) 1)) (ofNat n)))) = false) (h16:band (ile 0 (itmod (wr .i64 (iadd (ofNat z) (ofNat b))) (ofNat n))) (ilt (itmod (wr .i64 (iadd (ofNat z) (ofNat b))) (ofNat n)) (ofNat n)) = true) (h17:nlt (toN (itmod (wr .i64 (iadd (ofNat z) (ofNat b))) (ofNat n))) n = true):roundT (body53_2v L) (lp53_2v n f) (st53_2v n f z b k g j) = some (.nm,⟨(jsV 97 0 (fun _=>.und) [(0,(.sl 6 n (fun i=>(eV (f i))))),(1,(.fn 54 [])),(4,(.ref 0)),(5,(nV n)),(6,(nV z)),(8,(.ref 1)),(9,(nV k)),(37,(nV n)),(38,(iV (wr .i64 (iadd (ofNat b) 1))))]),[(.row 3 1 0 (fun _=>.und)),(.row 3 1 n (setGet (fun i=>(iV (g i))) (toN (itmod (wr .i64 (iadd (ofNat z) (ofNat b))) (ofNat n))) (nV k)))]⟩):=by
  exact sem_of_path (ds:=bbK 19 457725) (cs:=((fun c0 c1=>[(ilt (ofNat b) (ofNat n)),c0,c1,c1,c1,c1,c1,c1,c1,c1,c0,c1,(band (ile 0 (itmod (wr .i64 (isub (wr .i64 (iadd (itmod (wr .i64 (iadd (ofNat z) (ofNat b))) (ofNat n)) (ofNat n))) 1)) (ofNat n))) (ilt (itmod (wr .i64 (isub (wr .i64 (iadd (itmod (wr .i64 (iadd (ofNat z) (ofNat b))) (ofNat n)) (ofNat n))) 1)) (ofNat n)) (ofNat n))),c1,c1,c1,(movB (f (toN (itmod (wr .i64 (isub (wr .i64 (iadd (itmod (wr .i64 (iadd (ofNat z) (ofNat b))) (ofNat n)) (ofNat n))) 1)) (ofNat n))))),(band (ile 0 (itmod (wr .i64 (iadd (ofNat z) (ofNat b))) (ofNat n))) (ilt (itmod (wr .i64 (iadd (ofNat z) (ofNat b))) (ofNat n)) (ofNat n))),(nlt (toN (itmod (wr .i64 (iadd (ofNat z) (ofNat b))) (ofNat n))) n)]) (ieq (ofNat n) 0) (ilt 0 (ofNat b)))) (by kernel_rfl) (by simp only [h14,h16] <;> simp only [h0,h1,h2,h3,h17] <;> rfl)
theorem rq53tv (h0:ilt (ofNat b) (ofNat n) = true) (h1:ieq (ofNat n) 0 = false) (h2:ilt 0 (ofNat b) = true) (h14:band (ile 0 (itmod (wr .i64 (isub (wr .i64 (iadd (itmod (wr .i64 (iadd (ofNat z) (ofNat b))) (ofNat n)) (ofNat n))) 1)) (ofNat n))) (ilt (itmod (wr .i64 (isub (wr .i64 (iadd (itmod (wr .i64 (iadd (ofNat z) (ofNat b))) (ofNat n)) (ofNat n))) 1)) (ofNat n)) (ofNat n)) = true) (h3:movB (f (toN (itmod (wr .i64 (isub (wr .i64 (iadd (itmod (wr .i64 (iadd (ofNat z) (ofNat b))) (ofNat n)) (ofNat n))) 1)) (ofNat n)))) = true) (h16:band (ile 0 (itmod (wr .i64 (iadd (ofNat z) (ofNat b))) (ofNat n))) (ilt (itmod (wr .i64 (iadd (ofNat z) (ofNat b))) (ofNat n)) (ofNat n)) = true) (h17:nlt (toN (itmod (wr .i64 (iadd (ofNat z) (ofNat b))) (ofNat n))) n = true):roundT (body53_2v L) (lp53_2v n f) (st53_2v n f z b k g j) = some (.nm,⟨(jsV 97 0 (fun _=>.und) [(0,(.sl 6 n (fun i=>(eV (f i))))),(1,(.fn 54 [])),(4,(.ref 0)),(5,(nV n)),(6,(nV z)),(8,(.ref 1)),(9,(iV (wr .i64 (iadd (ofNat k) 1)))),(37,(nV n)),(38,(iV (wr .i64 (iadd (ofNat b) 1))))]),[(.row 3 1 0 (fun _=>.und)),(.row 3 1 n (setGet (fun i=>(iV (g i))) (toN (itmod (wr .i64 (iadd (ofNat z) (ofNat b))) (ofNat n))) (iV (wr .i64 (iadd (ofNat k) 1)))))]⟩):=by
  exact sem_of_path (ds:=bbK 19 523261) (cs:=((fun c0 c1=>[(ilt (ofNat b) (ofNat n)),c0,c1,c1,c1,c1,c1,c1,c1,c1,c0,c1,(band (ile 0 (itmod (wr .i64 (isub (wr .i64 (iadd (itmod (wr .i64 (iadd (ofNat z) (ofNat b))) (ofNat n)) (ofNat n))) 1)) (ofNat n))) (ilt (itmod (wr .i64 (isub (wr .i64 (iadd (itmod (wr .i64 (iadd (ofNat z) (ofNat b))) (ofNat n)) (ofNat n))) 1)) (ofNat n)) (ofNat n))),c1,c1,c1,(movB (f (toN (itmod (wr .i64 (isub (wr .i64 (iadd (itmod (wr .i64 (iadd (ofNat z) (ofNat b))) (ofNat n)) (ofNat n))) 1)) (ofNat n))))),(band (ile 0 (itmod (wr .i64 (iadd (ofNat z) (ofNat b))) (ofNat n))) (ilt (itmod (wr .i64 (iadd (ofNat z) (ofNat b))) (ofNat n)) (ofNat n))),(nlt (toN (itmod (wr .i64 (iadd (ofNat z) (ofNat b))) (ofNat n))) n)]) (ieq (ofNat n) 0) (ilt 0 (ofNat b)))) (by kernel_rfl) (by simp only [h14,h16] <;> simp only [h0,h1,h2,h3,h17] <;> rfl)
theorem rq53ev (h0:ilt (ofNat b) (ofNat n) = false):roundT (body53_2v L) (lp53_2v n f) (st53_2v n f z b k g j) = some ((.ex 2),⟨(jsV 97 0 (fun _=>.und) [(0,(.sl 6 n (fun i=>(eV (f i))))),(1,(.fn 54 [])),(4,(.ref 0)),(5,(nV n)),(8,(.ref 1))]),[(.row 3 1 0 (fun _=>.und)),(.row 3 1 n (fun i=>(iV (g i))))]⟩):=by
  exact sem_of_path (ds:=[false]) (cs:=[(ilt (ofNat b) (ofNat n))]) (by kernel_rfl) (by simp only [h0] <;> rfl)
end
def em53v (n:Nat) (f:Nat->E6) (z:Nat):St:=⟨(jsV 97 0 (fun _=>.und) [(0,(.sl 6 n (fun i=>(eV (f i))))),(1,(.fn 54 [])),(4,(.ref 0)),(5,(nV n)),(6,(nV z)),(8,(.ref 1)),(9,(iV 0)),(35,(nV n)),(36,(.ref 1)),(37,(nV n)),(38,(iV 0))]),[(.row 3 1 0 (fun _=>.und)),(.row 3 1 n (fun _=>(iV 0)))]⟩
def lp53_4v (n:Nat) (f:Nat->E6):Lp:=⟨(bmK 97 0 [4,8,12,13,70,71]),4,(bmK 97 0 [13]),4,n+1⟩
def st53_4v (n:Nat) (f:Nat->E6) (b r:Nat) (g s o:Nat->Int) (j:Nat->V):St:=⟨(jsV 97 0 j [(4,.ref 0),(8,.ref 1),(12,.ref 2),(13,.ref 3),(70,nV n),(71,nV b)]),[.row 3 1 0 (fun _=>.und),.row 3 1 n (fun i=>iV (g i)),.row 3 1 r (fun i=>iV (s i)),.row 3 1 n (fun i=>iV (o i))]⟩
def en53_4ve (n:Nat) (f:Nat->E6) (b r:Nat) (g s o:Nat->Int):Ex × St:=(.ex 4,⟨(jsV 97 0 (fun _=>.und) [(13,.ref 3)]),[.row 3 1 0 (fun _=>.und),.row 3 1 n (fun i=>iV (g i)),.row 3 1 r (fun i=>iV (s i)),.row 3 1 n (fun i=>iV (o i))]⟩)
noncomputable def body53_4v (L:LT):St->T (Ex × St):=fun st=>evalC tab ⟨callT tb53,L,Gl⟩ (loopBody Try.f53 4) 4 st
section
variable (L:LT) (n:Nat) (f:Nat->E6) (b r:Nat) (g s o:Nat->Int)  (j:Nat->V)
include L n f b r g s o j
theorem rs53ov (h0:ilt (ofNat b) (ofNat n) = true) (h13:ile 0 (ofNat b) = true) (h1:nlt b n = true) (h2:fit8 r = true) (h3:ilt (idxI r s (g b)) 0 = false):roundT (body53_4v L) (lp53_4v n f) (st53_4v n f b r g s o j) = some (.nm,⟨(jsV 97 0 (fun _=>.und) [(4,(.ref 0)),(8,(.ref 1)),(12,(.ref 2)),(13,(.ref 3)),(70,(nV n)),(71,(iV (wr .i64 (iadd (ofNat b) 1))))]),[(.row 3 1 0 (fun _=>.und)),(.row 3 1 n (fun i=>(iV (g i)))),(.row 3 1 r (fun i=>(iV (s i)))),(.row 3 1 n (setGet (fun i=>(iV (o i))) b (iV (idxI r s (g b)))))]⟩):=by
  exact sem_of_path (ds:=bbK 8 223) (cs:=((fun c0 c1=>[(ilt (ofNat b) (ofNat n)),c0,c1,(allN r (fun _=>true)),(fit8 r),(ilt (idxI r s (g b)) 0),c0,c1]) (band (ile 0 (ofNat b)) (ilt (ofNat b) (ofNat n))) (nlt b n))) (by kernel_rfl) (by simp only [h0,h13,h1,h2,h3,allN_true] <;> rfl)
theorem rs53nv (h0:ilt (ofNat b) (ofNat n) = true) (h13:ile 0 (ofNat b) = true) (h1:nlt b n = true) (h2:fit8 r = true) (h3:ilt (idxI r s (g b)) 0 = true) (h14:apOK r 1 8 = true):roundT (body53_4v L) (lp53_4v n f) (st53_4v n f b r g s o j) = some (.nm,⟨(jsV 97 0 (fun _=>.und) [(4,(.ref 0)),(8,(.ref 1)),(12,(.ref 2)),(13,(.ref 3)),(70,(nV n)),(71,(iV (wr .i64 (iadd (ofNat b) 1))))]),[(.row 3 1 0 (fun _=>.und)),(.row 3 1 n (fun i=>(iV (g i)))),(.row 3 1 (nadd r 1) (pushGet r (fun i=>(iV (s i))) (iV (g b)))),(.row 3 1 n (setGet (fun i=>(iV (o i))) b (nV r)))]⟩):=by
  exact sem_of_path (ds:=bbK 11 2047) (cs:=((fun c0 c1=>[(ilt (ofNat b) (ofNat n)),c0,c1,(allN r (fun _=>true)),(fit8 r),(ilt (idxI r s (g b)) 0),c0,c1,(apOK r 1 8),c0,c1]) (band (ile 0 (ofNat b)) (ilt (ofNat b) (ofNat n))) (nlt b n))) (by kernel_rfl) (by simp only [h0,h13,h1,h2,h3,h14,allN_true] <;> rfl)
theorem rs53ev (h0:ilt (ofNat b) (ofNat n) = false):roundT (body53_4v L) (lp53_4v n f) (st53_4v n f b r g s o j) = some ((.ex 4),⟨(jsV 97 0 (fun _=>.und) [(13,(.ref 3))]),[(.row 3 1 0 (fun _=>.und)),(.row 3 1 n (fun i=>(iV (g i)))),(.row 3 1 r (fun i=>(iV (s i)))),(.row 3 1 n (fun i=>(iV (o i))))]⟩):=by
  exact sem_of_path (ds:=[false]) (cs:=[(ilt (ofNat b) (ofNat n))]) (by kernel_rfl) (by simp only [h0] <;> rfl)
end
def es53v (n:Nat) (f:Nat->E6) (z:Nat) (g:Nat->Int):St:=⟨(jsV 97 0 (fun _=>.und) [(0,(.sl 6 n (fun i=>(eV (f i))))),(1,(.fn 54 [])),(4,(.ref 0)),(5,(nV n)),(8,(.ref 1)),(12,(.ref 2)),(13,(.ref 3)),(68,(nV n)),(69,(.ref 3)),(70,(nV n)),(71,(iV 0))]),[(.row 3 1 0 (fun _=>.und)),(.row 3 1 n (fun i=>(iV (g i)))),(.row 3 1 0 (fun _=>.und)),(.row 3 1 n (fun _=>(iV 0)))]⟩
theorem wm53v (L:LT) (p0:PT) (p2:PT) (p4:PT) (n:Nat) (f:Nat->E6) (z:Nat) (g:Nat->Int) (r:Nat) (gg ss o:Nat->Int) (h0:mkOK 8 (ofNat n) (ofNat n) = true) (hp0:p0 (body53v (onP 0 p0 (en53vf n f z) (onP 2 p2 (en53_2ve n f z 0 0 g) (onP 4 p4 (en53_4ve n f 0 r gg ss o) L)))) (st53v n f 0 (jk53v n f )) = true) (hp2:p2 (body53_2v (onP 0 p0 (en53vf n f z) (onP 2 p2 (en53_2ve n f z 0 0 g) (onP 4 p4 (en53_4ve n f 0 r gg ss o) L)))) (em53v n f z) = true) (hp4:p4 (body53_4v (onP 0 p0 (en53vf n f z) (onP 2 p2 (en53_2ve n f z 0 0 g) (onP 4 p4 (en53_4ve n f 0 r gg ss o) L)))) (es53v n f z g) = true):(finF (evalF tab ⟨callT tb53,(onP 0 p0 (en53vf n f z) (onP 2 p2 (en53_2ve n f z 0 0 g) (onP 4 p4 (en53_4ve n f 0 r gg ss o) L))),Gl⟩ Try.f53 [.sl 6 n fun i=>eV (f i),.fn 54 []] [])).sem = some ((.ref 0),[(.row 3 1 n (fun i=>(iV (o i))))]):=by
  exact sem_of_path (ds:=[true,true,true,true,true]) (cs:=[(p0 (body53v (onP 0 p0 (en53vf n f z) (onP 2 p2 (en53_2ve n f z 0 0 g) (onP 4 p4 (en53_4ve n f 0 r gg ss o) L)))) (st53v n f 0 (jk53v n f ))),(mkOK 8 (ofNat n) (ofNat n)),(p2 (body53_2v (onP 0 p0 (en53vf n f z) (onP 2 p2 (en53_2ve n f z 0 0 g) (onP 4 p4 (en53_4ve n f 0 r gg ss o) L)))) (em53v n f z)),(mkOK 8 (ofNat n) (ofNat n)),(p4 (body53_4v (onP 0 p0 (en53vf n f z) (onP 2 p2 (en53_2ve n f z 0 0 g) (onP 4 p4 (en53_4ve n f 0 r gg ss o) L)))) (es53v n f z g))]) (by kernel_rfl) (by simp only [hp0,hp2,hp4] <;> simp only [h0] <;> rfl)
theorem run53u (L:LT) (n:Nat) (f:Nat->E6) (hn:n <= 4611686018427387903):∀ (e i:Nat) (j:Nat->V) (q:Nat),n = i+e->e < q->(∀ k,k < i->(fun k=>outB (f k)) ((k+(n - 1)) % n) = false) ->
    (iterT (body53u L) (lp53u n f) q (st53u n f i j)).sem = some (en53uf n f (beginN (fun k=>outB (f k)) n))
  | 0,i,j,q+1,h,_,hb=>by
    have:n = i:=by omega
    subst this
    rw [begin_none hb]
    exact iter_round (rm53eu L n f n j (ofNat_ge (Nat.le_refl _)))
  | e+1,i,j,q+1,h,h2,hb=>by
    have hl:i < n:=by omega
    have hx:=back_wr (a:=i) (n:=n) (by omega) (by omega)
    have hin:band (ile 0 (itmod (wr .i64 (isub (wr .i64 (iadd (ofNat i) (ofNat n))) 1)) (ofNat n))) (ilt (itmod (wr .i64 (isub (wr .i64 (iadd (ofNat i) (ofNat n))) 1)) (ofNat n)) (ofNat n)) = true:=by
      rw [hx]
      exact ofNat_in (Nat.mod_lt _ (by omega))
    cases hp:outB (f ((i+(n - 1)) % n)) with
    | true =>
      rw [begin_at (p:=fun k=>outB (f k)) hl hp hb]
      exact iter_round (rm53tu L n f i j (ofNat_lt hl) (ieq0 (by omega)) hin (by rw [hx]; exact hp))
    | false =>
      rw [iter_round (rm53fu L n f i j (ofNat_lt hl) (ieq0 (by omega)) hin (by rw [hx]; exact hp)),goOn_nm,succ_wr hl (by omega)]
      refine run53u L n f hn e (i+1) (fun _=>.und) q (by omega) (by omega) fun k hk=>?_
      by_cases hki:k = i
      · rw [hki]; exact hp
      · exact hb k (by omega)
theorem run53bu (L:LT) (n:Nat) (f:Nat->E6) (hn:n <= 4611686018427387903) (z:Nat) (hz:z < n):∀ (e b:Nat) (j:Nat->V) (q:Nat),n = b+e->e < q ->
    (iterT (body53_2u L) (lp53_2u n f) q (st53_2u n f z b (cntB (turnP (fun k=>outB (f k)) n z) (b - 1)) (gN (fun k=>outB (f k)) n z b) j)).sem = some (en53_2ue n f z 0 0 (gN (fun k=>outB (f k)) n z n))
  | 0,b,j,q+1,h,_=>by
    have:n = b:=by omega
    subst this
    exact iter_round (rq53eu L n f z n _ _ j (ofNat_ge (Nat.le_refl _)))
  | e+1,b,j,q+1,h,h2=>by
    have hl:b < n:=by omega
    have hI:itmod (wr .i64 (iadd (ofNat z) (ofNat b))) (ofNat n) = ofNat ((z+b) % n):=by rw [wr_add (by omega),mod_nat]
    have hlt:(z+b) % n < n:=Nat.mod_lt _ (by omega)
    have hin:band (ile 0 (itmod (wr .i64 (iadd (ofNat z) (ofNat b))) (ofNat n))) (ilt (itmod (wr .i64 (iadd (ofNat z) (ofNat b))) (ofNat n)) (ofNat n)) = true:=by
      rw [hI]
      exact ofNat_in hlt
    have hnl:nlt (toN (itmod (wr .i64 (iadd (ofNat z) (ofNat b))) (ofNat n))) n = true:=by
      rw [hI]
      exact decide_eq_true hlt
    have next:=run53bu L n f hn z hz e (b+1) (fun _=>.und) q (by omega) (by omega)
    rw [show b+1 - 1 = b by omega] at next
    cases b with
    | zero =>
      rw [iter_round (rq53zu L n f z 0 _ _ j (ofNat_lt hl) (ieq0 (by omega)) rfl hin hnl),goOn_nm,hI,succ_wr hl (by omega),show toN (ofNat ((z+0) % n)) = (z+0) % n from rfl,setI_eq]
      have hs:=gN_succ (p:=fun k=>outB (f k)) hz hl
      rw [<- hs] at next
      exact next
    | succ b =>
      have hx:itmod (wr .i64 (isub (wr .i64 (iadd (itmod (wr .i64 (iadd (ofNat z) (ofNat (b+1)))) (ofNat n)) (ofNat n))) 1)) (ofNat n) = ofNat ((z+b) % n):=by
        rw [hI,back_wr (by omega) (by omega),before_at hz (by omega)]
      have hxin:band (ile 0 (itmod (wr .i64 (isub (wr .i64 (iadd (itmod (wr .i64 (iadd (ofNat z) (ofNat (b+1)))) (ofNat n)) (ofNat n))) 1)) (ofNat n))) (ilt (itmod (wr .i64 (isub (wr .i64 (iadd (itmod (wr .i64 (iadd (ofNat z) (ofNat (b+1)))) (ofNat n)) (ofNat n))) 1)) (ofNat n)) (ofNat n)) = true:=by
        rw [hx]
        exact ofNat_in (Nat.mod_lt _ (by omega))
      have hs:=gN_succ (p:=fun k=>outB (f k)) hz hl
      have hc:=cntB_le (turnP (fun k=>outB (f k)) n z) b
      have h0:ilt 0 (ofNat (b+1)) = true:=by rw [show (0:Int) = ofNat 0 from rfl,ilt_nat]; simp
      rw [show b+1 - 1 = b by omega]
      cases hp:outB (f ((z+b) % n)) with
      | true =>
        rw [iter_round (rq53tu L n f z (b+1) _ _ j (ofNat_lt hl) (ieq0 (by omega)) h0 hxin (by rw [hx]; exact hp) hin hnl),goOn_nm,hI,succ_wr hl (by omega),show toN (ofNat ((z+(b+1)) % n)) = (z+(b+1)) % n from rfl,succ_wr (show cntB (turnP (fun k=>outB (f k)) n z) b < n by omega) (by omega),setI_eq,<- cntB_t (p:=turnP (fun k=>outB (f k)) n z) (i:=b) hp,hs]
        exact next
      | false =>
        rw [iter_round (rq53fu L n f z (b+1) _ _ j (ofNat_lt hl) (ieq0 (by omega)) h0 hxin (by rw [hx]; exact hp) hin hnl),goOn_nm,hI,succ_wr hl (by omega),show toN (ofNat ((z+(b+1)) % n)) = (z+(b+1)) % n from rfl,setI_eq,<- cntB_f (p:=turnP (fun k=>outB (f k)) n z) (i:=b) hp,hs]
        exact next
theorem run53cu (L:LT) (n:Nat) (f:Nat->E6) (p:Nat->Bool) (hn:n * 8 <= 140737488355328) (z:Nat) (g:Nat->Int) (hg:∀ i,i < n->g i = ofNat (snN p n z (partN p n i))):∀ (e b:Nat) (j:Nat->V) (q:Nat),n = b+e->e < q ->
    (iterT (body53_4u L) (lp53_4u n f) q (st53_4u n f b (rN p n b) g (seenI p n z b) (outI p n b) j)).sem = some (en53_4ue n f 0 (rN p n n) g (seenI p n z n) (partF p n))
  | 0,b,j,q+1,h,_=>by
    have:n = b:=by omega
    subst this
    rw [<- outI_n p n]
    exact iter_round (rs53eu L n f n _ _ _ _ j (ofNat_ge (Nat.le_refl _)))
  | e+1,b,j,q+1,h,h2=>by
    have hl:b < n:=by omega
    have hr:=rN_le p n b
    have h8:fit8 (rN p n b) = true:=by
      unfold fit8
      simp
      omega
    have hnl:nlt b n = true:=by simpa [nlt] using hl
    have next:=run53cu L n f p hn z g hg e (b+1) (fun _=>.und) q (by omega) (by omega)
    rcases Nat.lt_or_ge (partN p n b) (rN p n b) with hc | hc
    · have hi:=seen_old (z:=z) hl hc
      rw [<- hg b hl] at hi
      obtain ⟨e1,e2⟩:=seenI_same (z:=z) hc
      rw [iter_round (rs53ou L n f b _ g _ _ j (ofNat_lt hl) (ofNat_0 b) hnl h8 (by rw [hi]; simp [ilt])),goOn_nm,succ_wr hl (by omega),hi,setI_eq,outI_succ hl]
      rw [e1,e2] at next
      exact next
    · have hc:partN p n b = rN p n b:=Nat.le_antisymm (part_le p n b hl) hc
      have hi:=seen_new (z:=z) hl hc
      rw [<- hg b hl] at hi
      obtain ⟨e1,e2⟩:=seenI_new (z:=z) hc
      rw [<- hg b hl] at e1
      rw [iter_round (rs53nu L n f b _ g _ _ j (ofNat_lt hl) (ofNat_0 b) hnl h8 (by rw [hi]; rfl) (ap_ok (by omega))),goOn_nm,succ_wr hl (by omega),e1,setI_eq,<- hc,outI_succ hl]
      rw [e2,<- hc] at next
      exact next
def zs53u:List (Nat × List (Nat × V)):=[(4,[(2,iV 0)])]
def lps53u (n:Nat) (f:Nat->E6):List (Nat × Lp):=[(0,lp53u n f),(2,lp53_2u n f),(4,lp53_4u n f)]
theorem fill53u (n:Nat) (f:Nat->E6) (z:Nat) (g:Nat->Int):fillS (es53u n f z g) [(2,iV 0)] = st53_4u n f 0 0 g (fun _=>0) (fun _=>0) (fun i=>nth (es53u n f z g).t i):=by kernel_rfl
theorem ent53u (n:Nat) (f:Nat->E6) (z:Nat):em53u n f z = st53_2u n f z 0 0 (fun _=>0) (fun i=>nth (em53u n f z).t i):=by kernel_rfl
theorem told53u (n:Nat) (f:Nat->E6) (hp:0 < n) (h8:n * 8 <= 140737488355328) (hm:mkOK 8 (ofNat n) (ofNat n) = true) :
    (finF (evalF tab (cxZ Gl tb53 zs53u (lps53u n f)) Try.f53 [edgesV n f,.fn 52 []] [])).sem = some (.ref 0,[.row 3 1 n fun k=>iV (partF (fun k=>outB (f k)) n k)]):=by
  have hL:=loopsZ_le zs53u (lps53u n f)
  have hz:=begin_lt (fun k=>outB (f k)) hp
  have hb:=begin_ok (fun k=>outB (f k)) hp
  refine told_le (onP_le (onP_le (onP_le hL hL) hL) hL) _ (wm53u _ _ _ _ n f (beginN (fun k=>outB (f k)) n) (gN (fun k=>outB (f k)) n (beginN (fun k=>outB (f k)) n) n) (rN (fun k=>outB (f k)) n n) (gN (fun k=>outB (f k)) n (beginN (fun k=>outB (f k)) n) n) (seenI (fun k=>outB (f k)) n (beginN (fun k=>outB (f k)) n) n) (partF (fun k=>outB (f k)) n) hm
    (isP_true ?_) (isP_true ?_) (isP_true ?_))
  · show (iterT _ (lp53u n f) (n+1) _).sem = _
    exact run53u _ n f (by omega) n 0 _ (n+1) (by omega) (by omega) (fun k hk=>absurd hk (Nat.not_lt_zero _))
  · show (iterT _ (lp53_2u n f) (n+1) _).sem = _
    rw [ent53u]
    have h:=fun L j=>run53bu L n f (by omega) _ hz n 0 j (n+1) (by omega) (by omega)
    simp only [gN_0] at h
    exact h _ _
  · show (iterT _ (lp53_4u n f) (n+1) (fillS _ [(2,iV 0)])).sem = _
    rw [fill53u]
    exact run53cu _ n f (fun k=>outB (f k)) h8 (beginN (fun k=>outB (f k)) n) _ (fun i hi=>gN_end hb hi) n 0 _ (n+1) (by omega) (by omega)
theorem run53v (L:LT) (n:Nat) (f:Nat->E6) (hn:n <= 4611686018427387903):∀ (e i:Nat) (j:Nat->V) (q:Nat),n = i+e->e < q->(∀ k,k < i->(fun k=>movB (f k)) ((k+(n - 1)) % n) = false) ->
    (iterT (body53v L) (lp53v n f) q (st53v n f i j)).sem = some (en53vf n f (beginN (fun k=>movB (f k)) n))
  | 0,i,j,q+1,h,_,hb=>by
    have:n = i:=by omega
    subst this
    rw [begin_none hb]
    exact iter_round (rm53ev L n f n j (ofNat_ge (Nat.le_refl _)))
  | e+1,i,j,q+1,h,h2,hb=>by
    have hl:i < n:=by omega
    have hx:=back_wr (a:=i) (n:=n) (by omega) (by omega)
    have hin:band (ile 0 (itmod (wr .i64 (isub (wr .i64 (iadd (ofNat i) (ofNat n))) 1)) (ofNat n))) (ilt (itmod (wr .i64 (isub (wr .i64 (iadd (ofNat i) (ofNat n))) 1)) (ofNat n)) (ofNat n)) = true:=by
      rw [hx]
      exact ofNat_in (Nat.mod_lt _ (by omega))
    cases hp:movB (f ((i+(n - 1)) % n)) with
    | true =>
      rw [begin_at (p:=fun k=>movB (f k)) hl hp hb]
      exact iter_round (rm53tv L n f i j (ofNat_lt hl) (ieq0 (by omega)) hin (by rw [hx]; exact hp))
    | false =>
      rw [iter_round (rm53fv L n f i j (ofNat_lt hl) (ieq0 (by omega)) hin (by rw [hx]; exact hp)),goOn_nm,succ_wr hl (by omega)]
      refine run53v L n f hn e (i+1) (fun _=>.und) q (by omega) (by omega) fun k hk=>?_
      by_cases hki:k = i
      · rw [hki]; exact hp
      · exact hb k (by omega)
theorem run53bv (L:LT) (n:Nat) (f:Nat->E6) (hn:n <= 4611686018427387903) (z:Nat) (hz:z < n):∀ (e b:Nat) (j:Nat->V) (q:Nat),n = b+e->e < q ->
    (iterT (body53_2v L) (lp53_2v n f) q (st53_2v n f z b (cntB (turnP (fun k=>movB (f k)) n z) (b - 1)) (gN (fun k=>movB (f k)) n z b) j)).sem = some (en53_2ve n f z 0 0 (gN (fun k=>movB (f k)) n z n))
  | 0,b,j,q+1,h,_=>by
    have:n = b:=by omega
    subst this
    exact iter_round (rq53ev L n f z n _ _ j (ofNat_ge (Nat.le_refl _)))
  | e+1,b,j,q+1,h,h2=>by
    have hl:b < n:=by omega
    have hI:itmod (wr .i64 (iadd (ofNat z) (ofNat b))) (ofNat n) = ofNat ((z+b) % n):=by rw [wr_add (by omega),mod_nat]
    have hlt:(z+b) % n < n:=Nat.mod_lt _ (by omega)
    have hin:band (ile 0 (itmod (wr .i64 (iadd (ofNat z) (ofNat b))) (ofNat n))) (ilt (itmod (wr .i64 (iadd (ofNat z) (ofNat b))) (ofNat n)) (ofNat n)) = true:=by
      rw [hI]
      exact ofNat_in hlt
    have hnl:nlt (toN (itmod (wr .i64 (iadd (ofNat z) (ofNat b))) (ofNat n))) n = true:=by
      rw [hI]
      exact decide_eq_true hlt
    have next:=run53bv L n f hn z hz e (b+1) (fun _=>.und) q (by omega) (by omega)
    rw [show b+1 - 1 = b by omega] at next
    cases b with
    | zero =>
      rw [iter_round (rq53zv L n f z 0 _ _ j (ofNat_lt hl) (ieq0 (by omega)) rfl hin hnl),goOn_nm,hI,succ_wr hl (by omega),show toN (ofNat ((z+0) % n)) = (z+0) % n from rfl,setI_eq]
      have hs:=gN_succ (p:=fun k=>movB (f k)) hz hl
      rw [<- hs] at next
      exact next
    | succ b =>
      have hx:itmod (wr .i64 (isub (wr .i64 (iadd (itmod (wr .i64 (iadd (ofNat z) (ofNat (b+1)))) (ofNat n)) (ofNat n))) 1)) (ofNat n) = ofNat ((z+b) % n):=by
        rw [hI,back_wr (by omega) (by omega),before_at hz (by omega)]
      have hxin:band (ile 0 (itmod (wr .i64 (isub (wr .i64 (iadd (itmod (wr .i64 (iadd (ofNat z) (ofNat (b+1)))) (ofNat n)) (ofNat n))) 1)) (ofNat n))) (ilt (itmod (wr .i64 (isub (wr .i64 (iadd (itmod (wr .i64 (iadd (ofNat z) (ofNat (b+1)))) (ofNat n)) (ofNat n))) 1)) (ofNat n)) (ofNat n)) = true:=by
        rw [hx]
        exact ofNat_in (Nat.mod_lt _ (by omega))
      have hs:=gN_succ (p:=fun k=>movB (f k)) hz hl
      have hc:=cntB_le (turnP (fun k=>movB (f k)) n z) b
      have h0:ilt 0 (ofNat (b+1)) = true:=by rw [show (0:Int) = ofNat 0 from rfl,ilt_nat]; simp
      rw [show b+1 - 1 = b by omega]
      cases hp:movB (f ((z+b) % n)) with
      | true =>
        rw [iter_round (rq53tv L n f z (b+1) _ _ j (ofNat_lt hl) (ieq0 (by omega)) h0 hxin (by rw [hx]; exact hp) hin hnl),goOn_nm,hI,succ_wr hl (by omega),show toN (ofNat ((z+(b+1)) % n)) = (z+(b+1)) % n from rfl,succ_wr (show cntB (turnP (fun k=>movB (f k)) n z) b < n by omega) (by omega),setI_eq,<- cntB_t (p:=turnP (fun k=>movB (f k)) n z) (i:=b) hp,hs]
        exact next
      | false =>
        rw [iter_round (rq53fv L n f z (b+1) _ _ j (ofNat_lt hl) (ieq0 (by omega)) h0 hxin (by rw [hx]; exact hp) hin hnl),goOn_nm,hI,succ_wr hl (by omega),show toN (ofNat ((z+(b+1)) % n)) = (z+(b+1)) % n from rfl,setI_eq,<- cntB_f (p:=turnP (fun k=>movB (f k)) n z) (i:=b) hp,hs]
        exact next
theorem run53cv (L:LT) (n:Nat) (f:Nat->E6) (p:Nat->Bool) (hn:n * 8 <= 140737488355328) (z:Nat) (g:Nat->Int) (hg:∀ i,i < n->g i = ofNat (snN p n z (partN p n i))):∀ (e b:Nat) (j:Nat->V) (q:Nat),n = b+e->e < q ->
    (iterT (body53_4v L) (lp53_4v n f) q (st53_4v n f b (rN p n b) g (seenI p n z b) (outI p n b) j)).sem = some (en53_4ve n f 0 (rN p n n) g (seenI p n z n) (partF p n))
  | 0,b,j,q+1,h,_=>by
    have:n = b:=by omega
    subst this
    rw [<- outI_n p n]
    exact iter_round (rs53ev L n f n _ _ _ _ j (ofNat_ge (Nat.le_refl _)))
  | e+1,b,j,q+1,h,h2=>by
    have hl:b < n:=by omega
    have hr:=rN_le p n b
    have h8:fit8 (rN p n b) = true:=by
      unfold fit8
      simp
      omega
    have hnl:nlt b n = true:=by simpa [nlt] using hl
    have next:=run53cv L n f p hn z g hg e (b+1) (fun _=>.und) q (by omega) (by omega)
    rcases Nat.lt_or_ge (partN p n b) (rN p n b) with hc | hc
    · have hi:=seen_old (z:=z) hl hc
      rw [<- hg b hl] at hi
      obtain ⟨e1,e2⟩:=seenI_same (z:=z) hc
      rw [iter_round (rs53ov L n f b _ g _ _ j (ofNat_lt hl) (ofNat_0 b) hnl h8 (by rw [hi]; simp [ilt])),goOn_nm,succ_wr hl (by omega),hi,setI_eq,outI_succ hl]
      rw [e1,e2] at next
      exact next
    · have hc:partN p n b = rN p n b:=Nat.le_antisymm (part_le p n b hl) hc
      have hi:=seen_new (z:=z) hl hc
      rw [<- hg b hl] at hi
      obtain ⟨e1,e2⟩:=seenI_new (z:=z) hc
      rw [<- hg b hl] at e1
      rw [iter_round (rs53nv L n f b _ g _ _ j (ofNat_lt hl) (ofNat_0 b) hnl h8 (by rw [hi]; rfl) (ap_ok (by omega))),goOn_nm,succ_wr hl (by omega),e1,setI_eq,<- hc,outI_succ hl]
      rw [e2,<- hc] at next
      exact next
def zs53v:List (Nat × List (Nat × V)):=[(4,[(2,iV 0)])]
def lps53v (n:Nat) (f:Nat->E6):List (Nat × Lp):=[(0,lp53v n f),(2,lp53_2v n f),(4,lp53_4v n f)]
theorem fill53v (n:Nat) (f:Nat->E6) (z:Nat) (g:Nat->Int):fillS (es53v n f z g) [(2,iV 0)] = st53_4v n f 0 0 g (fun _=>0) (fun _=>0) (fun i=>nth (es53v n f z g).t i):=by kernel_rfl
theorem ent53v (n:Nat) (f:Nat->E6) (z:Nat):em53v n f z = st53_2v n f z 0 0 (fun _=>0) (fun i=>nth (em53v n f z).t i):=by kernel_rfl
theorem told53v (n:Nat) (f:Nat->E6) (hp:0 < n) (h8:n * 8 <= 140737488355328) (hm:mkOK 8 (ofNat n) (ofNat n) = true) :
    (finF (evalF tab (cxZ Gl tb53 zs53v (lps53v n f)) Try.f53 [edgesV n f,.fn 54 []] [])).sem = some (.ref 0,[.row 3 1 n fun k=>iV (partF (fun k=>movB (f k)) n k)]):=by
  have hL:=loopsZ_le zs53v (lps53v n f)
  have hz:=begin_lt (fun k=>movB (f k)) hp
  have hb:=begin_ok (fun k=>movB (f k)) hp
  refine told_le (onP_le (onP_le (onP_le hL hL) hL) hL) _ (wm53v _ _ _ _ n f (beginN (fun k=>movB (f k)) n) (gN (fun k=>movB (f k)) n (beginN (fun k=>movB (f k)) n) n) (rN (fun k=>movB (f k)) n n) (gN (fun k=>movB (f k)) n (beginN (fun k=>movB (f k)) n) n) (seenI (fun k=>movB (f k)) n (beginN (fun k=>movB (f k)) n) n) (partF (fun k=>movB (f k)) n) hm
    (isP_true ?_) (isP_true ?_) (isP_true ?_))
  · show (iterT _ (lp53v n f) (n+1) _).sem = _
    exact run53v _ n f (by omega) n 0 _ (n+1) (by omega) (by omega) (fun k hk=>absurd hk (Nat.not_lt_zero _))
  · show (iterT _ (lp53_2v n f) (n+1) _).sem = _
    rw [ent53v]
    have h:=fun L j=>run53bv L n f (by omega) _ hz n 0 j (n+1) (by omega) (by omega)
    simp only [gN_0] at h
    exact h _ _
  · show (iterT _ (lp53_4v n f) (n+1) (fillS _ [(2,iV 0)])).sem = _
    rw [fill53v]
    exact run53cv _ n f (fun k=>movB (f k)) h8 (beginN (fun k=>movB (f k)) n) _ (fun i hi=>gN_end hb hi) n 0 _ (n+1) (by omega) (by omega)
noncomputable def metT:List V->T (V × List Blk)
  | [v,.fn g []]=>apL v fun n f=>.br (band (ilt 0 (ofNat n)) (band (fit8 n) (mkOK 8 (ofNat n) (ofNat n)))) (match Nat.beq g 52,Nat.beq g 54 with
    | true,_=>.leaf (.ref 0,[.row 3 1 n fun k=>iV (partF (fun k=>outB (f k)) n k)])
    | _,true=>.leaf (.ref 0,[.row 3 1 n fun k=>iV (partF (fun k=>movB (f k)) n k)])
    | _,_=>.fail) .fail
  | _=>.fail
theorem p53:PureC Try.prog Gl 53 metT:=by
  refine pureC_intro tabOK mixed Try.func53 (by kernel_rfl) (by kernel_rfl) fun vs v h' h=>?_
  unfold metT at h
  split at h
  · rename_i u g
    obtain ⟨n,f,ha,h1⟩:=apL_some h
    obtain ⟨h8,hq⟩:=sem_br_fail h1
    have h8:ilt 0 (ofNat n) = true ∧ fit8 n = true ∧ mkOK 8 (ofNat n) (ofNat n) = true:=by simpa [band] using h8
    obtain ⟨h9,h8,hm⟩:=h8
    have h9:0 < n:=by rw [show (0:Int) = ofNat 0 from rfl,ilt_nat] at h9; simpa using h9
    have h8':n * 8 <= 140737488355328:=of_decide_eq_true h8
    have hA:ArgLE [u,.fn g []] [edgesV n f,.fn g []]:=fun S w cs hv=>by
      obtain ⟨c,l,rfl,q1,q2⟩:=hv
      exact ⟨c,l,rfl,ha S w c q1,q2⟩
    cases h52:Nat.beq g 52 with
    | true =>
      rw [h52] at hq
      have he:=Nat.eq_of_beq_eq_true h52
      subst he
      have:=sem_leaf hq
      simp only [Prod.mk.injEq] at this
      obtain ⟨rfl,rfl⟩:=this
      have hx:=cxZ_ok tb53_ok zs53u (lps53u n f) (G:=Gl)
      exact ⟨_,cxZ Gl tb53 zs53u (lps53u n f),_,hA,rfl,hx.1,hx.2,told53u n f h9 h8' hm,RowsLE.refl _⟩
    | false =>
      rw [h52] at hq
      cases h54:Nat.beq g 54 with
      | true =>
        rw [h54] at hq
        have he:=Nat.eq_of_beq_eq_true h54
        subst he
        have:=sem_leaf hq
        simp only [Prod.mk.injEq] at this
        obtain ⟨rfl,rfl⟩:=this
        have hx:=cxZ_ok tb53_ok zs53v (lps53v n f) (G:=Gl)
        exact ⟨_,cxZ Gl tb53 zs53v (lps53v n f),_,hA,rfl,hx.1,hx.2,told53v n f h9 h8' hm,RowsLE.refl _⟩
      | false =>
        rw [h54] at hq
        cases hq
  · cases h
end Go.Proofs.Ytjhnfomefcngfaa.Sh
