/-
  Layer 7, plain: a cycle's segments going round, its events' values, what its reads read, its locations' writes in order. No program here, no conditions.
-/
import Derived.Test.YtjhnfomefcngfaaShB
namespace Go.Proofs.Ytjhnfomefcngfaa.Sh
open Go.Sy Ed
open Int (ofNat)
def lstN (p:Nat->Bool) (n:Nat):Nat:=match (List.range n).find? p with
  | some k=>k
  | none=>n
theorem lstN_at {p:Nat->Bool} {n k:Nat} (hk:k < n) (h:p k = true) (hb:∀ i,i < k->p i = false):lstN p n = k:=by
  unfold lstN
  have:(List.range n).find? p = some k:=by
    rw [List.find?_range_eq_some]
    exact ⟨h,by simpa using hk,fun j hj=>by rw [hb j hj]; rfl⟩
  rw [this]
theorem lstN_some {p:Nat->Bool} {n k:Nat} (hk:k < n) (h:p k = true):lstN p n <= k ∧ p (lstN p n) = true ∧ ∀ i,i < lstN p n->p i = false:=by
  unfold lstN
  cases hf:(List.range n).find? p with
  | none =>
    rw [List.find?_eq_none] at hf
    exact absurd h (hf k (by simpa using hk))
  | some z =>
    rw [List.find?_range_eq_some] at hf
    obtain ⟨h1,_,h3⟩:=hf
    refine ⟨?_,h1,fun i hi=>by simpa using h3 i hi⟩
    apply Nat.le_of_not_lt
    intro hc
    have:=h3 k hc
    rw [h] at this
    cases this
theorem lstN_none {p:Nat->Bool} {n:Nat} (h:∀ i,i < n->p i = false):lstN p n = n:=by
  unfold lstN
  have:(List.range n).find? p = none:=by
    rw [List.find?_eq_none]
    intro k hk
    rw [h k (by simpa using hk)]
    simp
  rw [this]
theorem lstN_le (p:Nat->Bool) (n:Nat):lstN p n <= n:=by
  by_cases h:∃ i,i < n ∧ p i = true
  · obtain ⟨i,h1,h2⟩:=h
    have:=(lstN_some h1 h2).1
    omega
  · rw [lstN_none fun i hi=>by
      cases hp:p i with
      | false=>rfl
      | true=>exact absurd ⟨i,hi,hp⟩ h]
    exact Nat.le_refl _
section
variable (m w:Nat->Bool) (n:Nat)
def rnd (i t:Nat):Nat:=(i+t) % n
def isSt (i:Nat):Bool:=m (rnd n i (n - 1))
def dstN (i:Nat):Nat:=lstN (fun d=>m (rnd n i (n - 1 - d))) n
def segN (i:Nat):Nat:=rnd n i (n - dstN m n i)
def lenN (i:Nat):Nat:=lstN (fun t=>m (rnd n i t)) n+1
def wcN (i:Nat):Nat->Nat:=cntB fun t=>w (rnd n i t)
def wlN (i:Nat):Nat->Int
  | 0=>-1
  | t+1=>bif w (rnd n i t) then ofNat (rnd n i t) else wlN i t
end
theorem rnd_lt {n i t:Nat} (h:0 < n):rnd n i t < n:=Nat.mod_lt _ h
theorem rnd_rnd (n i s t:Nat):rnd n (rnd n i s) t = rnd n i (s+t):=by
  unfold rnd
  rw [Nat.mod_add_mod,Nat.add_assoc]
theorem rnd_n (n i t:Nat):rnd n i (t+n) = rnd n i t:=by
  unfold rnd
  rw [<- Nat.add_assoc,Nat.add_mod_right]
theorem rnd_0 {n i:Nat} (h:i < n):rnd n i 0 = i:=Nat.mod_eq_of_lt h
theorem rnd_inj {n i s t:Nat} (hi:i < n) (hs:s < n) (ht:t < n) (h:rnd n i s = rnd n i t):s = t:=by
  unfold rnd at h
  rw [mod_cases (a:=i+s) (by omega),mod_cases (a:=i+t) (by omega)] at h
  split at h <;> split at h <;> omega
structure InSeg (m:Nat->Bool) (n b t j:Nat):Prop where
  lb:b < n
  lt:t < n
  st:isSt m n b = true
  go:∀ s,s < t->m (rnd n b s) = false
  eq:j = rnd n b t
theorem InSeg.dst {m:Nat->Bool} {n b t j:Nat} (h:InSeg m n b t j):dstN m n j = t:=by
  have hb:=h.lb
  have ht:=h.lt
  refine lstN_at h.lt ?_ fun d hd=>?_
  · show m (rnd n j (n - 1 - t)) = true
    rw [h.eq,rnd_rnd,show t+(n - 1 - t) = n - 1 by omega]
    exact h.st
  · show m (rnd n j (n - 1 - d)) = false
    rw [h.eq,rnd_rnd,show t+(n - 1 - d) = (t - 1 - d)+n by omega,rnd_n]
    exact h.go _ (by omega)
theorem InSeg.seg {m:Nat->Bool} {n b t j:Nat} (h:InSeg m n b t j):segN m n j = b:=by
  have hb:=h.lb
  have ht:=h.lt
  unfold segN
  rw [h.dst,h.eq,rnd_rnd,show t+(n - t) = 0+n by omega,rnd_n,rnd_0 hb]
theorem inSeg {m:Nat->Bool} {n i k:Nat} (hi:i < n) (hk:k < n) (hm:m k = true):InSeg m n (segN m n i) (dstN m n i) i:=by
  have h1:∃ d,d < n ∧ m (rnd n i (n - 1 - d)) = true:=by
    refine ⟨rnd n i (n - 1 - k),rnd_lt (by omega),?_⟩
    have:rnd n i (n - 1 - rnd n i (n - 1 - k)) = k:=by
      unfold rnd
      rw [mod_cases (a:=i+(n - 1 - k)) (by omega)]
      split <;> (rw [mod_cases (by omega)]; split <;> omega)
    rw [this]; exact hm
  obtain ⟨d,hd,hmd⟩:=h1
  obtain ⟨h2,h3,h4⟩:=lstN_some (p:=fun d=>m (rnd n i (n - 1 - d))) hd hmd
  have ht:dstN m n i < n:=by unfold dstN; omega
  refine ⟨rnd_lt (by omega),ht,?_,fun s hs=>?_,?_⟩
  · unfold isSt segN
    rw [rnd_rnd,show n - dstN m n i+(n - 1) = (n - 1 - dstN m n i)+n by omega,rnd_n]
    exact h3
  · unfold segN
    rw [rnd_rnd]
    have:=h4 (dstN m n i - 1 - s) (by unfold dstN at *; omega)
    rw [show n - 1 - (dstN m n i - 1 - s) = n - dstN m n i+s by omega] at this
    exact this
  · unfold segN
    rw [rnd_rnd,show n - dstN m n i+dstN m n i = 0+n by omega,rnd_n,rnd_0 hi]
theorem len_spec {m:Nat->Bool} {n b:Nat} (hb:b < n) (h:isSt m n b = true):0 < lenN m n b ∧ lenN m n b <= n ∧ m (rnd n b (lenN m n b - 1)) = true ∧ ∀ s,s+1 < lenN m n b->m (rnd n b s) = false:=by
  obtain ⟨h2,h3,h4⟩:=lstN_some (p:=fun t=>m (rnd n b t)) (n:=n) (k:=n - 1) (by omega) h
  unfold lenN
  refine ⟨by omega,by omega,by simpa using h3,fun s hs=>h4 s (by omega)⟩
theorem InSeg.lt_len {m:Nat->Bool} {n b t j:Nat} (h:InSeg m n b t j):t < lenN m n b:=by
  obtain ⟨h1,h2,h3,h4⟩:=len_spec h.lb h.st
  apply Nat.lt_of_not_le
  intro hc
  have:=h.go (lenN m n b - 1) (by omega)
  rw [h3] at this
  cases this
theorem inSeg_at {m:Nat->Bool} {n b t:Nat} (hb:b < n) (h:isSt m n b = true) (ht:t < lenN m n b):InSeg m n b t (rnd n b t):=by
  obtain ⟨h1,h2,h3,h4⟩:=len_spec hb h
  exact ⟨hb,by omega,h,fun s hs=>h4 s (by omega),rfl⟩
def doneN (m:Nat->Bool) (n:Nat) (r:Nat->Nat) (b t j:Nat):Bool:=decide (r j < b) || decide (r j = b ∧ dstN m n j < t)
structure Rank (m:Nat->Bool) (n:Nat) (r:Nat->Nat):Prop where
  same:∀ {b t j},InSeg m n b t j->r j = r b
  apart:∀ {b c},b < n->c < n->isSt m n b = true->isSt m n c = true->r b = r c->b = c
theorem done_next {m:Nat->Bool} {n:Nat} {r:Nat->Nat} (hr:Rank m n r) {b t:Nat} (hb:b < n) (h:isSt m n b = true) (ht:t < lenN m n b) {j:Nat} (hj:j < n) :
    doneN m n r (r b) (t+1) j = (decide (j = rnd n b t) || doneN m n r (r b) t j):=by
  have hin:=inSeg (m:=m) hj (rnd_lt (t:=n - 1) (i:=b) (by omega)) h
  have hi2:=inSeg_at hb h ht
  have e1:=hr.same hin
  have e2:=hr.same hi2
  rw [Bool.eq_iff_iff]
  unfold doneN
  simp only [Bool.or_eq_true,decide_eq_true_eq]
  constructor
  · rintro (h1 | ⟨h1,h2⟩)
    · exact .inr (.inl h1)
    · by_cases h3:dstN m n j < t
      · exact .inr (.inr ⟨h1,h3⟩)
      · left
        have h4:dstN m n j = t:=by omega
        have h5:=hr.apart hin.lb hb hin.st h (by rw [<- e1,h1])
        rw [hin.eq,h4,h5]
  · rintro (h1 | h1 | ⟨h1,h2⟩)
    · right
      rw [h1,e2,hi2.dst]
      exact ⟨rfl,by omega⟩
    · exact .inl h1
    · exact .inr ⟨h1,by omega⟩
theorem done_end {m:Nat->Bool} {n:Nat} {r:Nat->Nat} (hr:Rank m n r) {b:Nat} (hb:b < n) (h:isSt m n b = true) {j:Nat} (hj:j < n) :
    doneN m n r (r b) (lenN m n b) j = doneN m n r (r b+1) 0 j:=by
  have hin:=inSeg (m:=m) hj (rnd_lt (t:=n - 1) (i:=b) (by omega)) h
  have e1:=hr.same hin
  rw [Bool.eq_iff_iff]
  unfold doneN
  simp only [Bool.or_eq_true,decide_eq_true_eq]
  constructor
  · rintro (h1 | ⟨h1,h2⟩) <;> exact .inl (by omega)
  · rintro (h1 | ⟨h1,h2⟩)
    · by_cases h3:r j = r b
      · right
        have h5:=hr.apart hin.lb hb hin.st h (by rw [<- e1,h3])
        have:=hin.lt_len
        rw [h5] at this
        exact ⟨h3,this⟩
      · left; omega
    · omega
theorem done_all {m:Nat->Bool} {n:Nat} {r:Nat->Nat} {b j:Nat} (h:r j < b):doneN m n r b 0 j = true:=by
  unfold doneN
  simp [h]
theorem done_0 {m:Nat->Bool} {n:Nat} {r:Nat->Nat} {j:Nat}:doneN m n r 0 0 j = false:=by
  unfold doneN
  simp
theorem done_skip {m:Nat->Bool} {n b j:Nat} (hj:j < n) (hn:∃ k,k < n ∧ m k = true) (h:isSt m n b = false):doneN m n (segN m n) b 0 j = doneN m n (segN m n) (b+1) 0 j:=by
  obtain ⟨k,hk,hm⟩:=hn
  have hin:=inSeg hj hk hm
  rw [Bool.eq_iff_iff]
  unfold doneN
  simp only [Bool.or_eq_true,decide_eq_true_eq]
  have:segN m n j ≠ b:=fun he=>by
    have:=hin.st
    rw [he,h] at this
    cases this
  constructor
  · rintro (h1 | h1) <;> exact .inl (by omega)
  · rintro (h1 | h1) <;> exact .inl (by omega)
theorem rank_seg (m:Nat->Bool) (n:Nat):Rank m n (segN m n):=by
  have self:∀ {b},b < n->isSt m n b = true->segN m n b = b:=fun {b} hb h=>by
    have h1:=(len_spec hb h).1
    have:=(inSeg_at hb h h1).seg
    rw [rnd_0 hb] at this
    exact this
  exact ⟨fun {b t j} h=>by rw [h.seg,self h.lb h.st],fun hb hc h1 h2 h=>by rw [self hb h1,self hc h2] at h; exact h⟩
theorem st_cases {m:Nat->Bool} {n b:Nat} (hb:b < n):isSt m n b = m (if b = 0 then n - 1 else b - 1):=by
  unfold isSt rnd
  congr 1
  rw [mod_cases (by omega)]
  split <;> split <;> omega
theorem part_same {m:Nat->Bool} {n b t j:Nat} (h:InSeg m n b t j):partN m n j = partN m n b:=by
  have hb:=h.lb
  have ht:=h.lt
  have run:∀ c e,(∀ s,s < e->m (c+s) = false)->cntB m (c+e) = cntB m c:=fun c e=>by
    induction e with
    | zero=>intro _; rfl
    | succ e ih=>intro hs; rw [<- Nat.add_assoc,cntB_f (hs e (by omega)),ih fun s hs'=>hs s (by omega)]
  rcases Nat.lt_or_ge (b+t) n with hc | hc
  · have hj:j = b+t:=by rw [h.eq]; exact Nat.mod_eq_of_lt hc
    have:=run b t fun s hs=>by
      have:=h.go s hs
      unfold rnd at this
      rwa [Nat.mod_eq_of_lt (by omega)] at this
    unfold partN
    rw [hj,this]
  · have hj:j = b+t - n:=by
      rw [h.eq]; unfold rnd
      rw [mod_cases (by omega)]
      split <;> omega
    have h1:=run b (n - b) fun s hs=>by
      have:=h.go s (by omega)
      unfold rnd at this
      rwa [Nat.mod_eq_of_lt (by omega)] at this
    rw [show b+(n - b) = n by omega] at h1
    have h2:cntB m j = 0:=cntB_zero fun i hi=>by
      have:=h.go (i+(n - b)) (by omega)
      unfold rnd at this
      rw [show b+(i+(n - b)) = i+n by omega,Nat.add_mod_right,Nat.mod_eq_of_lt (by omega)] at this
      exact this
    unfold partN
    rw [h2,<- h1,if_pos rfl]
    split
    · rfl
    · rfl
theorem part_apart {m:Nat->Bool} {n:Nat}:∀ {b c:Nat},b < c->c < n->isSt m n b = true->isSt m n c = true->partN m n b ≠ partN m n c:=fun {b c} hbc hc h1 h2 he=>by
  rw [st_cases (by omega)] at h1 h2
  rw [if_neg (by omega)] at h2
  have e2:=cntB_t h2
  rw [show c - 1+1 = c by omega] at e2
  have m1:=cntB_mono m (show b <= c - 1 by omega)
  have m2:=cntB_mono m (show c <= n by omega)
  unfold partN at he
  by_cases h0:b = 0
  · rw [if_pos h0] at h1
    have e1:=cntB_t h1
    rw [show n - 1+1 = n by omega] at e1
    have m3:=cntB_mono m (show c <= n - 1 by omega)
    have:cntB m b = 0:=by rw [h0]; rfl
    split at he <;> split at he <;> omega
  · rw [if_neg h0] at h1
    have e1:=cntB_t h1
    rw [show b - 1+1 = b by omega] at e1
    split at he <;> split at he <;> omega
theorem rank_part (m:Nat->Bool) (n:Nat):Rank m n (partN m n):=⟨part_same,fun {b c} hb hc h1 h2 h=>by
  rcases Nat.lt_trichotomy b c with h3 | h3 | h3
  · exact absurd h (part_apart h3 hc h1 h2)
  · exact h3
  · exact absurd h.symm (part_apart h3 hb h2 h1)⟩
theorem part_there {m:Nat->Bool} {n k:Nat} (hk:k < cntB m n):∃ b,b < n ∧ isSt m n b = true ∧ partN m n b = k:=by
  have up:∀ e v,0 < v->v <= cntB m e->∃ b,0 < b ∧ b <= e ∧ cntB m b = v ∧ m (b - 1) = true:=fun e=>by
    induction e with
    | zero=>intro v h0 h; simp [cntB] at h; omega
    | succ e ih =>
      intro v h0 h
      by_cases hv:v <= cntB m e
      · obtain ⟨b,h1,h2,h3⟩:=ih v h0 hv
        exact ⟨b,h1,by omega,h3⟩
      · cases hm:m e with
        | false=>rw [cntB_f hm] at h; omega
        | true =>
          rw [cntB_t hm] at h
          exact ⟨e+1,by omega,Nat.le_refl _,by rw [cntB_t hm]; omega,by simpa using hm⟩
  have hn:0 < n:=by
    rcases Nat.eq_zero_or_pos n with h | h
    · subst h; simp [cntB] at hk
    · exact h
  by_cases h0:k = 0
  · cases hm:m (n - 1) with
    | true =>
      refine ⟨0,hn,by rw [st_cases hn,if_pos rfl]; exact hm,?_⟩
      unfold partN
      rw [show cntB m 0 = 0 from rfl]
      split <;> omega
    | false =>
      obtain ⟨b,h1,h2,h3,h4⟩:=up n (cntB m n) (by omega) (Nat.le_refl _)
      have hbn:b ≠ n:=fun he=>by rw [he,hm] at h4; cases h4
      refine ⟨b,by omega,by rw [st_cases (by omega),if_neg (by omega)]; exact h4,?_⟩
      unfold partN
      rw [if_pos h3,h0]
  · obtain ⟨b,h1,h2,h3,h4⟩:=up n k (by omega) (by omega)
    have hbn:b ≠ n:=fun he=>by rw [he] at h3; omega
    refine ⟨b,by omega,by rw [st_cases (by omega),if_neg (by omega)]; exact h4,?_⟩
    unfold partN
    rw [if_neg (by omega),h3]
def stN (m:Nat->Bool) (n k:Nat):Nat:=lstN (fun b=>isSt m n b && decide (partN m n b = k)) n
theorem stN_spec {m:Nat->Bool} {n k:Nat} (hk:k < cntB m n):stN m n k < n ∧ isSt m n (stN m n k) = true ∧ partN m n (stN m n k) = k ∧ ∀ i,i < stN m n k->isSt m n i = true->partN m n i ≠ k:=by
  obtain ⟨b,h1,h2,h3⟩:=part_there hk
  obtain ⟨h4,h5,h6⟩:=lstN_some (p:=fun b=>isSt m n b && decide (partN m n b = k)) h1 (by simp [h2,h3])
  simp only [Bool.and_eq_true,decide_eq_true_eq] at h5
  refine ⟨by unfold stN; omega,h5.1,h5.2,fun i hi hst he=>?_⟩
  have:=h6 i hi
  simp [hst,he] at this
theorem stN_at {m:Nat->Bool} {n b:Nat} (hb:b < n) (h:isSt m n b = true):stN m n (partN m n b) = b:=by
  obtain ⟨h4,h5,h6⟩:=lstN_some (p:=fun c=>isSt m n c && decide (partN m n c = partN m n b)) hb (by simp [h])
  simp only [Bool.and_eq_true,decide_eq_true_eq] at h5
  exact (rank_part m n).apart (by unfold stN; omega) hb h5.1 h h5.2
theorem part_lt {m:Nat->Bool} {n k:Nat} (hk:k <= n) (h:0 < cntB m n):partN m n k < cntB m n:=by
  have:=cntB_mono m hk
  unfold partN
  split <;> omega
def wrAt (w:Nat->Bool) (n b v:Nat):Nat:=rnd n b (lstN (fun t=>w (rnd n b t) && decide (wcN w n b t = v)) n)
theorem wrAt_at {w:Nat->Bool} {n b t:Nat} (ht:t < n) (h:w (rnd n b t) = true):wrAt w n b (wcN w n b t) = rnd n b t:=by
  unfold wrAt
  rw [lstN_at (k:=t) ht (by simp [h]) fun i hi=>?_]
  cases hw:w (rnd n b i) with
  | false=>simp
  | true =>
    have h1:wcN w n b (i+1) = wcN w n b i+1:=cntB_t (p:=fun t=>w (rnd n b t)) hw
    have h2:wcN w n b (i+1) <= wcN w n b t:=cntB_mono _ (by omega)
    simp
    omega
section
variable (m w:Nat->Bool) (n:Nat)
def valN (i:Nat):Nat:=wcN w n (segN m n i) (dstN m n i+1)
def rfN (i:Nat):Int:=bif w i then -1 else wlN w n (segN m n i) (dstN m n i)
def lnN (k:Nat):Nat:=wcN w n (stN m n k) (lenN m n (stN m n k))
def coN (k j:Nat):Nat:=wrAt w n (stN m n k) j
end
theorem wc_t {w:Nat->Bool} {n b t:Nat} (h:w (rnd n b t) = true):wcN w n b (t+1) = wcN w n b t+1:=cntB_t (p:=fun t=>w (rnd n b t)) h
theorem wc_f {w:Nat->Bool} {n b t:Nat} (h:w (rnd n b t) = false):wcN w n b (t+1) = wcN w n b t:=cntB_f (p:=fun t=>w (rnd n b t)) h
theorem wl_t {w:Nat->Bool} {n b t:Nat} (h:w (rnd n b t) = true):wlN w n b (t+1) = ofNat (rnd n b t):=by rw [wlN,h]; rfl
theorem wl_f {w:Nat->Bool} {n b t:Nat} (h:w (rnd n b t) = false):wlN w n b (t+1) = wlN w n b t:=by rw [wlN,h]; rfl
theorem wl_eq {w:Nat->Bool} {n b:Nat}:∀ {t:Nat},t <= n->wlN w n b t = if wcN w n b t = 0 then -1 else ofNat (wrAt w n b (wcN w n b t - 1))
  | 0,_=>rfl
  | t+1,h=>by
    cases hw:w (rnd n b t) with
    | true=>rw [wl_t hw,wc_t hw,if_neg (by omega),Nat.add_sub_cancel,wrAt_at (by omega) hw]
    | false=>rw [wl_f hw,wc_f hw,wl_eq (by omega)]
theorem val_at {m w:Nat->Bool} {n b t j:Nat} (h:InSeg m n b t j):valN m w n j = wcN w n b (t+1):=by
  unfold valN
  rw [h.seg,h.dst]
theorem rf_at {m w:Nat->Bool} {n b t j:Nat} (h:InSeg m n b t j) (hw:w j = false):rfN m w n j = wlN w n b t:=by
  unfold rfN
  rw [h.seg,h.dst,hw]
  rfl
theorem rf_w {m w:Nat->Bool} {n j:Nat} (hw:w j = true):rfN m w n j = -1:=by
  unfold rfN
  rw [hw]
  rfl
theorem InSeg.next {m:Nat->Bool} {n b t j:Nat} (h:InSeg m n b t j) (hm:m j = false):InSeg m n b (t+1) (rnd n j 1):=by
  have hl:=h.lt_len
  obtain ⟨h1,h2,h3,h4⟩:=len_spec h.lb h.st
  have ht:t+1 ≠ lenN m n b:=fun he=>by
    rw [show lenN m n b - 1 = t by omega,<- h.eq,hm] at h3
    cases h3
  exact ⟨h.lb,by omega,h.st,fun s hs=>h4 s (by omega),by rw [h.eq,rnd_rnd]⟩
theorem inSeg_cut {m:Nat->Bool} {n j:Nat} (hj:j < n) (hm:m j = true):InSeg m n (rnd n j 1) 0 (rnd n j 1):=by
  refine ⟨rnd_lt (by omega),by omega,?_,fun s hs=>by omega,by rw [rnd_0 (rnd_lt (by omega))]⟩
  unfold isSt
  rw [rnd_rnd,show 1+(n - 1) = 0+n by omega,rnd_n,rnd_0 hj]
  exact hm
theorem wrAt_spec {w:Nat->Bool} {n b:Nat}:∀ {e v:Nat},e <= n->v < wcN w n b e->∃ t,t < e ∧ w (rnd n b t) = true ∧ wcN w n b t = v ∧ wrAt w n b v = rnd n b t
  | 0,v,_,h=>by simp [wcN,cntB] at h
  | e+1,v,he,h=>by
    by_cases hv:v < wcN w n b e
    · obtain ⟨t,h1,h2⟩:=wrAt_spec (by omega) hv
      exact ⟨t,by omega,h2⟩
    · cases hw:w (rnd n b e) with
      | false=>rw [wc_f hw] at h; omega
      | true =>
        rw [wc_t hw] at h
        have:wcN w n b e = v:=by omega
        refine ⟨e,by omega,hw,this,?_⟩
        rw [<- this,wrAt_at (by omega) hw]
theorem co_spec {m w:Nat->Bool} {n k j:Nat} (hk:k < cntB m n) (hj:j < lnN m w n k):coN m w n k j < n ∧ w (coN m w n k j) = true ∧ partN m n (coN m w n k j) = k ∧ valN m w n (coN m w n k j) = j+1:=by
  obtain ⟨h1,h2,h3,h4⟩:=stN_spec hk
  obtain ⟨l1,l2,l3,l4⟩:=len_spec h1 h2
  obtain ⟨t,ht,hw,hc,he⟩:=wrAt_spec (w:=w) l2 hj
  have hin:=inSeg_at h1 h2 ht
  unfold coN
  rw [he]
  refine ⟨rnd_lt (by omega),hw,?_,?_⟩
  · rw [part_same hin,h3]
  · rw [val_at hin,wc_t hw,hc]
theorem co_inj {m w:Nat->Bool} {n k i j:Nat} (hk:k < cntB m n) (hi:i < lnN m w n k) (hj:j < lnN m w n k) (h:coN m w n k i = coN m w n k j):i = j:=by
  have h1:=(co_spec hk hi).2.2.2
  have h2:=(co_spec hk hj).2.2.2
  rw [h] at h1
  omega
theorem co_of {m w:Nat->Bool} {n j:Nat} (hj:j < n) (hm:0 < cntB m n) (hw:w j = true):0 < valN m w n j ∧ valN m w n j - 1 < lnN m w n (partN m n j) ∧ coN m w n (partN m n j) (valN m w n j - 1) = j:=by
  obtain ⟨b0,hb0,hs0,_⟩:=part_there hm
  have hin:=inSeg (m:=m) hj (rnd_lt (t:=n - 1) (i:=b0) (by omega)) hs0
  have hl:=hin.lt_len
  obtain ⟨l1,l2,l3,l4⟩:=len_spec hin.lb hin.st
  have hw':w (rnd n (segN m n j) (dstN m n j)) = true:=by rw [<- hin.eq]; exact hw
  have e1:stN m n (partN m n j) = segN m n j:=by rw [part_same hin,stN_at hin.lb hin.st]
  have e2:=val_at (w:=w) hin
  have e3:=wc_t hw'
  have e4:wcN w n (segN m n j) (dstN m n j+1) <= wcN w n (segN m n j) (lenN m n (segN m n j)):=cntB_mono _ (by omega)
  unfold lnN coN
  rw [e1,e2,e3]
  refine ⟨by omega,by omega,?_⟩
  rw [Nat.add_sub_cancel,wrAt_at hin.lt hw',<- hin.eq]
theorem cnt_rnd (p:Nat->Bool) {n b:Nat} (hb:b <= n):cntB (fun t=>p (rnd n b t)) n = cntB p n:=by
  have a1:∀ e,b+e <= n->cntB (fun t=>p (rnd n b t)) e+cntB p b = cntB p (b+e):=fun e=>by
    induction e with
    | zero=>intro _; simp [cntB]
    | succ e ih =>
      intro h
      have ih:=ih (by omega)
      have he:rnd n b e = b+e:=Nat.mod_eq_of_lt (by omega)
      rw [<- Nat.add_assoc]
      cases hp:p (b+e) with
      | true=>rw [cntB_t hp,cntB_t (p:=fun t=>p (rnd n b t)) (by show p (rnd n b e) = true; rw [he]; exact hp)]; omega
      | false=>rw [cntB_f hp,cntB_f (p:=fun t=>p (rnd n b t)) (by show p (rnd n b e) = false; rw [he]; exact hp)]; omega
  have a2:∀ e,e <= b->cntB (fun t=>p (rnd n b t)) (n - b+e) = cntB (fun t=>p (rnd n b t)) (n - b)+cntB p e:=fun e=>by
    induction e with
    | zero=>intro _; simp [cntB]
    | succ e ih =>
      intro h
      have ih:=ih (by omega)
      have he:rnd n b (n - b+e) = e:=by
        unfold rnd
        rw [show b+(n - b+e) = e+n by omega,Nat.add_mod_right,Nat.mod_eq_of_lt (by omega)]
      rw [<- Nat.add_assoc]
      cases hp:p e with
      | true=>rw [cntB_t hp,cntB_t (p:=fun t=>p (rnd n b t)) (by show p (rnd n b (n - b+e)) = true; rw [he]; exact hp)]; omega
      | false=>rw [cntB_f hp,cntB_f (p:=fun t=>p (rnd n b t)) (by show p (rnd n b (n - b+e)) = false; rw [he]; exact hp)]; omega
  have h1:=a1 (n - b) (by omega)
  have h2:=a2 b (Nat.le_refl _)
  rw [show b+(n - b) = n by omega] at h1
  rw [show n - b+b = n by omega] at h2
  omega
theorem cnt_congr {p q:Nat->Bool}:∀ {n:Nat},(∀ i,i < n->p i = q i)->cntB p n = cntB q n
  | 0,_=>rfl
  | n+1,h=>by
    have ih:=cnt_congr (n:=n) fun i hi=>h i (by omega)
    have he:=h n (by omega)
    cases hq:q n with
    | true=>rw [cntB_t hq,cntB_t (he.trans hq),ih]
    | false=>rw [cntB_f hq,cntB_f (he.trans hq),ih]
structure Ev5 where
  th:Int
  pl:Int
  dir:Int
  loc:Int
  val:Int
def evV (e:Ev5):V:=.agg [iV e.th,iV e.pl,iV e.dir,iV e.loc,iV e.val]
section
variable (n:Nat) (g:Nat->E6)
def obF (i:Nat):Bool:=outB (g i)
def mbF (i:Nat):Bool:=movB (g i)
def wrF (i:Nat):Bool:=ieq (g i).src 2
def thF:Nat->Int:=partF (obF g) n
def loF:Nat->Int:=partF (mbF g) n
def loN:Nat->Nat:=partN (mbF g) n
def kkN:Nat:=cntB (mbF g) n
def plF (i:Nat):Nat:=cntB (fun k=>ieq (thF n g i) (thF n g k)) i
def evF (d:Nat->Bool) (i:Nat):Ev5:=bif decide (i < n) then ⟨thF n g i,ofNat (plF n g i),(g i).src,loF n g i,bif d i then ofNat (valN (mbF g) (wrF g) n i) else 0⟩ else ⟨0,0,0,0,0⟩
def rfF (d:Nat->Bool) (i:Nat):Int:=bif d i then rfN (mbF g) (wrF g) n i else -1
def dnF (r:Nat->Nat) (b t j:Nat):Bool:=decide (j < n) && doneN (mbF g) n r b t j
def lnP (b t k:Nat):Nat:=if k < kkN n g then (if stN (mbF g) n k < b then lnN (mbF g) (wrF g) n k else if stN (mbF g) n k = b then wcN (wrF g) n b t else 0) else 0
def coP (b t k j:Nat):Int:=if j < lnP n g b t k then ofNat (coN (mbF g) (wrF g) n k j) else 0
end
theorem lo_N {n:Nat} {g:Nat->E6} {i:Nat} (h:i < n):loF n g i = ofNat (loN n g i):=partF_N h
theorem dnF_next {n:Nat} {g:Nat->E6} {r:Nat->Nat} (hr:Rank (mbF g) n r) {b t:Nat} (hb:b < n) (h:isSt (mbF g) n b = true) (ht:t < lenN (mbF g) n b) (j:Nat) :
    dnF n g r (r b) (t+1) j = (decide (j = rnd n b t) || dnF n g r (r b) t j):=by
  unfold dnF
  by_cases hj:j < n
  · rw [done_next hr hb h ht hj]
    simp [hj]
  · have:j ≠ rnd n b t:=fun he=>hj (by rw [he]; exact rnd_lt (by omega))
    simp [hj,this]
theorem dnF_end {n:Nat} {g:Nat->E6} {r:Nat->Nat} (hr:Rank (mbF g) n r) {b:Nat} (hb:b < n) (h:isSt (mbF g) n b = true):dnF n g r (r b) (lenN (mbF g) n b) = dnF n g r (r b+1) 0:=by
  funext j
  unfold dnF
  by_cases hj:j < n
  · rw [done_end hr hb h hj]
  · simp [hj]
theorem seg_self {m:Nat->Bool} {n b:Nat} (hb:b < n) (h:isSt m n b = true):segN m n b = b:=by
  have h1:=(len_spec hb h).1
  have:=(inSeg_at hb h h1).seg
  rw [rnd_0 hb] at this
  exact this
theorem st_lo {m:Nat->Bool} {n b k:Nat} (hb:b < n) (h:isSt m n b = true) (hk:k < cntB m n):stN m n k = b ↔ k = partN m n b:=by
  constructor
  · intro he
    rw [<- he,(stN_spec hk).2.2.1]
  · intro he
    rw [he,stN_at hb h]
theorem lo_lt {n:Nat} {g:Nat->E6} {b:Nat} (hb:b < n) (h:0 < kkN n g):loN n g b < kkN n g:=part_lt (Nat.le_of_lt hb) h
theorem kk_of_st {n:Nat} {g:Nat->E6} {b:Nat} (hb:b < n) (h:isSt (mbF g) n b = true):0 < kkN n g:=by
  unfold kkN
  have hn:0 < n:=by omega
  rw [st_cases hb] at h
  generalize hk:(if b = 0 then n - 1 else b - 1) = k at h
  have hkn:k < n:=by rw [<- hk]; split <;> omega
  have h1:=cntB_t h
  have h2:=cntB_mono (mbF g) (show k+1 <= n by omega)
  omega
theorem lnP_w {n:Nat} {g:Nat->E6} {b t:Nat} (hb:b < n) (h:isSt (mbF g) n b = true) (hw:wrF g (rnd n b t) = true) (k:Nat):lnP n g b (t+1) k = if k = loN n g b then lnP n g b t k+1 else lnP n g b t k:=by
  have hl:=lo_lt hb (kk_of_st hb h)
  unfold lnP
  by_cases hk:k < kkN n g
  · have:=st_lo hb h hk
    rw [if_pos hk,if_pos hk]
    by_cases he:k = loN n g b
    · have h2:=this.2 he
      rw [if_pos he,if_neg (by omega),if_pos h2,if_neg (by omega),if_pos h2,wc_t hw]
    · have h2:stN (mbF g) n k ≠ b:=fun h3=>he (this.1 h3)
      rw [if_neg he,if_neg h2,if_neg h2]
  · rw [if_neg hk,if_neg hk,if_neg (by omega)]
theorem lnP_r {n:Nat} {g:Nat->E6} {b t:Nat} (hw:wrF g (rnd n b t) = false):lnP n g b (t+1) = lnP n g b t:=by
  funext k
  unfold lnP
  rw [wc_f hw]
theorem lnP_lo {n:Nat} {g:Nat->E6} {b t:Nat} (hb:b < n) (h:isSt (mbF g) n b = true):lnP n g b t (loN n g b) = wcN (wrF g) n b t:=by
  have hl:=lo_lt hb (kk_of_st hb h)
  have h2:=(st_lo hb h hl).2 rfl
  unfold lnP
  rw [if_pos hl,if_neg (by omega),if_pos h2]
theorem coP_w {n:Nat} {g:Nat->E6} {b t:Nat} (hb:b < n) (h:isSt (mbF g) n b = true) (ht:t < n) (hw:wrF g (rnd n b t) = true) (k j:Nat) :
    coP n g b (t+1) k j = if k = loN n g b ∧ j = lnP n g b t k then ofNat (rnd n b t) else coP n g b t k j:=by
  have hl:=lo_lt hb (kk_of_st hb h)
  unfold coP
  rw [lnP_w hb h hw]
  by_cases hk:k = loN n g b
  · subst hk
    have h2:=(st_lo hb h hl).2 rfl
    have h2:stN (mbF g) n (loN n g b) = b:=h2
    rw [if_pos rfl,lnP_lo hb h]
    by_cases hj:j = wcN (wrF g) n b t
    · rw [if_pos (by omega),if_pos ⟨rfl,hj⟩,hj]
      unfold coN
      rw [h2,wrAt_at ht hw]
    · have h4:¬ (loN n g b = loN n g b ∧ j = wcN (wrF g) n b t):=fun h=>hj h.2
      by_cases h3:j < wcN (wrF g) n b t
      · simp [hj,h3,show j < wcN (wrF g) n b t+1 by omega]
      · simp [hj,h3,show ¬ j < wcN (wrF g) n b t+1 by omega]
  · simp only [if_neg hk,if_neg (fun h:k = loN n g b ∧ j = lnP n g b t k=>hk h.1)]
theorem coP_r {n:Nat} {g:Nat->E6} {b t:Nat} (hw:wrF g (rnd n b t) = false):coP n g b (t+1) = coP n g b t:=by
  funext k j
  unfold coP
  rw [lnP_r hw]
theorem lnP_end {n:Nat} {g:Nat->E6} {b:Nat}:lnP n g b (lenN (mbF g) n b) = lnP n g (b+1) 0:=by
  funext k
  have h0:wcN (wrF g) n (b+1) 0 = 0:=rfl
  unfold lnP
  split
  · by_cases h1:stN (mbF g) n k < b
    · rw [if_pos h1,if_pos (by omega)]
    · rw [if_neg h1]
      by_cases h2:stN (mbF g) n k = b
      · rw [if_pos h2,if_pos (by omega)]
        unfold lnN
        rw [h2]
      · rw [if_neg h2,if_neg (by omega),h0]
        split <;> rfl
  · rfl
theorem lnP_skip {n:Nat} {g:Nat->E6} {b:Nat} (h:isSt (mbF g) n b = false):lnP n g b 0 = lnP n g (b+1) 0:=by
  funext k
  have h0:wcN (wrF g) n (b+1) 0 = 0:=rfl
  have h1:wcN (wrF g) n b 0 = 0:=rfl
  unfold lnP
  rw [h0,h1]
  by_cases hk:k < kkN n g
  · have h2:=stN_spec hk
    have:stN (mbF g) n k ≠ b:=fun he=>by
      have:=h2.2.1
      rw [he,h] at this
      cases this
    rw [if_pos hk,if_pos hk]
    by_cases h3:stN (mbF g) n k < b
    · rw [if_pos h3,if_pos (by omega)]
    · simp only [if_neg h3,if_neg (show ¬ stN (mbF g) n k < b+1 by omega),if_neg this]
      split <;> rfl
  · rw [if_neg hk,if_neg hk]
theorem coP_ln {n:Nat} {g:Nat->E6} {b t b' t':Nat} (h:lnP n g b t = lnP n g b' t'):coP n g b t = coP n g b' t':=by
  funext k j
  unfold coP
  rw [h]
theorem lnP_0 (n:Nat) (g:Nat->E6):lnP n g 0 0 = fun _=>0:=by
  funext k
  have h0:wcN (wrF g) n 0 0 = 0:=rfl
  unfold lnP
  rw [h0]
  split
  · rw [if_neg (by omega)]
    split <;> rfl
  · rfl
theorem coP_0 (n:Nat) (g:Nat->E6):coP n g 0 0 = fun _ _=>0:=by
  funext k j
  unfold coP
  rw [lnP_0]
  simp
theorem evF_in {n:Nat} {g:Nat->E6} {d:Nat->Bool} {i:Nat} (h:i < n):evF n g d i = ⟨thF n g i,ofNat (plF n g i),(g i).src,loF n g i,bif d i then ofNat (valN (mbF g) (wrF g) n i) else 0⟩:=by
  unfold evF
  rw [decide_eq_true h]
  rfl
theorem ev_set {n:Nat} {g:Nat->E6} {d d':Nat->Bool} {X:Nat} {v:Int} (hXn:X < n) (hd:∀ j,d' j = (decide (j = X) || d j)) (hv:v = ofNat (valN (mbF g) (wrF g) n X)) :
    (fun i=>V.agg [iV (sel (nbeq i X) (evF n g d X).th (evF n g d i).th),iV (sel (nbeq i X) (evF n g d X).pl (evF n g d i).pl),iV (sel (nbeq i X) (evF n g d X).dir (evF n g d i).dir),iV (sel (nbeq i X) (evF n g d X).loc (evF n g d i).loc),iV (sel (nbeq i X) v (evF n g d i).val)]) = fun i=>evV (evF n g d' i):=by
  funext i
  cases hX:nbeq i X with
  | true =>
    have:=Nat.eq_of_beq_eq_true hX
    subst this
    unfold evV
    simp only [sel_true]
    rw [evF_in hXn,evF_in hXn,hd,hv]
    simp
  | false =>
    have hne:i ≠ X:=fun he=>by rw [he] at hX; unfold nbeq at hX; rw [Nat.beq_refl] at hX; cases hX
    unfold evV
    simp only [sel_false]
    have:d' i = d i:=by rw [hd]; simp [hne]
    unfold evF
    rw [this]
theorem rf_set {n:Nat} {g:Nat->E6} {d d':Nat->Bool} {X:Nat} {v:Int} (hd:∀ j,d' j = (decide (j = X) || d j)) (hv:v = rfN (mbF g) (wrF g) n X):setGet (fun i=>iV (rfF n g d i)) X (iV v) = fun i=>iV (rfF n g d' i):=by
  rw [setI_eq]
  funext i
  unfold updI rfF
  rw [hd]
  by_cases h:i = X
  · subst h
    simp [hv]
  · simp [h]
theorem rf_keep {n:Nat} {g:Nat->E6} {d d':Nat->Bool} {X:Nat} (hd:∀ j,d' j = (decide (j = X) || d j)) (hw:wrF g X = true):rfF n g d' = rfF n g d:=by
  funext i
  unfold rfF
  rw [hd]
  by_cases h:i = X
  · subst h
    rw [rf_w hw]
    cases d i <;> simp
  · simp [h]
end Go.Proofs.Ytjhnfomefcngfaa.Sh
