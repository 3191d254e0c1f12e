/-
  Layer 7, plain: a cycle's segments going round, its events' values, what its reads read, its locations' writes in order. No program here, no conditions.
-/
import Derived.Test.YtjhnfomefcngfaaShB
import Derived.Test.YtjhnfomefcngfaaSyS
import Derived.Test.YtjhnfomefcngfaaCyA
namespace Go.Proofs.Ytjhnfomefcngfaa.Sh
open Go.Sy Ed
open Int (ofNat)
def ES (p:Nat->Bool) (n:Nat):Nat:=match (List.range n).find? p with
 | some k=>k
 | none=>n
theorem MK {p:Nat->Bool} {n k:Nat} (hk:k < n) (h:p k = true) (hb:∀ i,i < k->p i = false):ES p n = k:=by
 unfold ES
 have:(List.range n).find? p = some k:=by
  rw [List.find?_range_eq_some]
  exact ⟨h,by simpa using hk,λj hj=>by rw [hb j hj]; rfl⟩
 rw [this]
theorem Fn {p:Nat->Bool} {n k:Nat} (hk:k < n) (h:p k = true):ES p n <= k ∧ p (ES p n) = true ∧ ∀ i,i < ES p n->p i = false:=by
 unfold ES
 cases hf:(List.range n).find? p with
 | none =>
  rw [List.find?_eq_none] at hf
  exact absurd h (hf k (by simpa using hk))
 | some z =>
  rw [List.find?_range_eq_some] at hf
  obtain ⟨h1,_,h3⟩:=hf
  refine ⟨?_,h1,λi hi=>by simpa using h3 i hi⟩
  apply Nat.le_of_not_lt
  intro hc
  have:=h3 k hc
  rw [h] at this
  cases this
theorem L4 {p:Nat->Bool} {n:Nat} (h:∀ i,i < n->p i = false):ES p n = n:=by
 unfold ES
 have:(List.range n).find? p = none:=by
  rw [List.find?_eq_none]
  intro k hk
  rw [h k (by simpa using hk)]
  simp
 rw [this]
section
variable (m w:Nat->Bool) (n:Nat)
def rnd (i t:Nat):Nat:=(i+t) % n
def CL (i:Nat):Bool:=m (rnd n i (n - 1))
def HE (i:Nat):Nat:=ES (λd=>m (rnd n i (n - 1 - d))) n
def Bz (i:Nat):Nat:=rnd n i (n - HE m n i)
def Cw (i:Nat):Nat:=ES (λt=>m (rnd n i t)) n+1
def wcN (i:Nat):Nat->Nat:=Al λt=>w (rnd n i t)
def wlN (i:Nat):Nat->Int
 | 0=>-1
 | t+1=>bif w (rnd n i t) then ofNat (rnd n i t) else wlN i t
end
theorem Gk {n i t:Nat} (h:0 < n):rnd n i t < n:=Nat.mod_lt _ h
theorem Hd (n i s t:Nat):rnd n (rnd n i s) t = rnd n i (s+t):=by
 unfold rnd
 rw [Nat.mod_add_mod,Nat.add_assoc]
theorem Sw (n i t:Nat):rnd n i (t+n) = rnd n i t:=by
 unfold rnd
 rw [<- Nat.add_assoc,Nat.add_mod_right]
theorem Sx {n i:Nat} (h:i < n):rnd n i 0 = i:=Nat.mod_eq_of_lt h
theorem Acq {n i s t:Nat} (hi:i < n) (hs:s < n) (ht:t < n) (h:rnd n i s = rnd n i t):s = t:=by
 unfold rnd at h
 rw [Bv (a:=i+s) (by omega),Bv (a:=i+t) (by omega)] at h
 split at h <;> split at h <;> omega
structure InSeg (m:Nat->Bool) (n b t j:Nat):Prop where
 lb:b < n
 lt:t < n
 st:CL m n b = true
 go:∀ s,s < t->m (rnd n b s) = false
 eq:j = rnd n b t
theorem InSeg.dst {m:Nat->Bool} {n b t j:Nat} (h:InSeg m n b t j):HE m n j = t:=by
 have hb:=h.lb
 have ht:=h.lt
 refine MK h.lt ?_ λd hd=>?_
 ·show m (rnd n j (n - 1 - t)) = true
  rw [h.eq,Hd,show t+(n - 1 - t) = n - 1 by omega]
  exact h.st
 ·show m (rnd n j (n - 1 - d)) = false
  rw [h.eq,Hd,show t+(n - 1 - d) = (t - 1 - d)+n by omega,Sw]
  exact h.go _ (by omega)
theorem InSeg.seg {m:Nat->Bool} {n b t j:Nat} (h:InSeg m n b t j):Bz m n j = b:=by
 have hb:=h.lb
 have ht:=h.lt
 unfold Bz
 rw [h.dst,h.eq,Hd,show t+(n - t) = 0+n by omega,Sw,Sx hb]
theorem Aan {m:Nat->Bool} {n i k:Nat} (hi:i < n) (hk:k < n) (hm:m k = true):InSeg m n (Bz m n i) (HE m n i) i:=by
 have h1:∃ d,d < n ∧ m (rnd n i (n - 1 - d)) = true:=by
  refine ⟨rnd n i (n - 1 - k),Gk (by omega),?_⟩
  have:rnd n i (n - 1 - rnd n i (n - 1 - k)) = k:=by
   unfold rnd
   rw [Bv (a:=i+(n - 1 - k)) (by omega)]
   split <;> (rw [Bv (by omega)]; split <;> omega)
  rw [this]; exact hm
 obtain ⟨d,hd,hmd⟩:=h1
 obtain ⟨h2,h3,h4⟩:=Fn (p:=λd=>m (rnd n i (n - 1 - d))) hd hmd
 have ht:HE m n i < n:=by unfold HE; omega
 refine ⟨Gk (by omega),ht,?_,λs hs=>?_,?_⟩
 ·unfold CL Bz
  rw [Hd,show n - HE m n i+(n - 1) = (n - 1 - HE m n i)+n by omega,Sw]
  exact h3
 ·unfold Bz
  rw [Hd]
  have:=h4 (HE m n i - 1 - s) (by unfold HE at *; omega)
  rw [show n - 1 - (HE m n i - 1 - s) = n - HE m n i+s by omega] at this
  exact this
 ·unfold Bz
  rw [Hd,show n - HE m n i+HE m n i = 0+n by omega,Sw,Sx hi]
theorem E8 {m:Nat->Bool} {n b:Nat} (hb:b < n) (h:CL m n b = true):0 < Cw m n b ∧ Cw m n b <= n ∧ m (rnd n b (Cw m n b - 1)) = true ∧ ∀ s,s+1 < Cw m n b->m (rnd n b s) = false:=by
 obtain ⟨h2,h3,h4⟩:=Fn (p:=λt=>m (rnd n b t)) (n:=n) (k:=n - 1) (by omega) h
 unfold Cw
 refine ⟨by omega,by omega,by simpa using h3,λs hs=>h4 s (by omega)⟩
theorem InSeg.lt_len {m:Nat->Bool} {n b t j:Nat} (h:InSeg m n b t j):t < Cw m n b:=by
 obtain ⟨h1,h2,h3,h4⟩:=E8 h.lb h.st
 apply Nat.lt_of_not_le
 intro hc
 have:=h.go (Cw m n b - 1) (by omega)
 rw [h3] at this
 cases this
theorem G8 {m:Nat->Bool} {n b t:Nat} (hb:b < n) (h:CL m n b = true) (ht:t < Cw m n b):InSeg m n b t (rnd n b t):=by
 obtain ⟨h1,h2,h3,h4⟩:=E8 hb h
 exact ⟨hb,by omega,h,λs hs=>h4 s (by omega),rfl⟩
def Gd (m:Nat->Bool) (n:Nat) (r:Nat->Nat) (b t j:Nat):Bool:=decide (r j < b) || decide (r j = b ∧ HE m n j < t)
structure Rank (m:Nat->Bool) (n:Nat) (r:Nat->Nat):Prop where
 same:∀ {b t j},InSeg m n b t j->r j = r b
 apart:∀ {b c},b < n->c < n->CL m n b = true->CL m n c = true->r b = r c->b = c
theorem XU {m:Nat->Bool} {n:Nat} {r:Nat->Nat} (hr:Rank m n r) {b t:Nat} (hb:b < n) (h:CL m n b = true) (ht:t < Cw m n b) {j:Nat} (hj:j < n) :
  Gd m n r (r b) (t+1) j = (decide (j = rnd n b t) || Gd m n r (r b) t j):=by
 have hin:=Aan (m:=m) hj (Gk (t:=n - 1) (i:=b) (by omega)) h
 have hi2:=G8 hb h ht
 have e1:=hr.same hin
 have e2:=hr.same hi2
 rw [Bool.eq_iff_iff]
 unfold Gd
 simp only [Bool.or_eq_true,decide_eq_true_eq]
 constructor
 ·rintro (h1 | ⟨h1,h2⟩)
  ·exact .inr (.inl h1)
  ·by_cases h3:HE m n j < t
   ·exact .inr (.inr ⟨h1,h3⟩)
   ·left
    have h4:HE m n j = t:=by omega
    have h5:=hr.apart hin.lb hb hin.st h (by rw [<- e1,h1])
    rw [hin.eq,h4,h5]
 ·rintro (h1 | h1 | ⟨h1,h2⟩)
  ·right
   rw [h1,e2,hi2.dst]
   exact ⟨rfl,by omega⟩
  ·exact .inl h1
  ·exact .inr ⟨h1,by omega⟩
theorem AaQ {m:Nat->Bool} {n:Nat} {r:Nat->Nat} (hr:Rank m n r) {b:Nat} (hb:b < n) (h:CL m n b = true) {j:Nat} (hj:j < n) :
  Gd m n r (r b) (Cw m n b) j = Gd m n r (r b+1) 0 j:=by
 have hin:=Aan (m:=m) hj (Gk (t:=n - 1) (i:=b) (by omega)) h
 have e1:=hr.same hin
 rw [Bool.eq_iff_iff]
 unfold Gd
 simp only [Bool.or_eq_true,decide_eq_true_eq]
 constructor
 ·rintro (h1 | ⟨h1,h2⟩) <;> exact .inl (by omega)
 ·rintro (h1 | ⟨h1,h2⟩)
  ·by_cases h3:r j = r b
   ·right
    have h5:=hr.apart hin.lb hb hin.st h (by rw [<- e1,h3])
    have:=hin.lt_len
    rw [h5] at this
    exact ⟨h3,this⟩
   ·left; omega
  ·omega
theorem T7 {m:Nat->Bool} {n:Nat} {r:Nat->Nat} {b j:Nat} (h:r j < b):Gd m n r b 0 j = true:=by
 unfold Gd
 simp [h]
theorem AaR {m:Nat->Bool} {n:Nat} {r:Nat->Nat} {j:Nat}:Gd m n r 0 0 j = false:=by
 unfold Gd
 simp
theorem XT {m:Nat->Bool} {n b j:Nat} (hj:j < n) (hn:∃ k,k < n ∧ m k = true) (h:CL m n b = false):Gd m n (Bz m n) b 0 j = Gd m n (Bz m n) (b+1) 0 j:=by
 obtain ⟨k,hk,hm⟩:=hn
 have hin:=Aan hj hk hm
 rw [Bool.eq_iff_iff]
 unfold Gd
 simp only [Bool.or_eq_true,decide_eq_true_eq]
 have:Bz m n j ≠ b:=λhe=>by
  have:=hin.st
  rw [he,h] at this
  cases this
 constructor
 ·rintro (h1 | h1) <;> exact .inl (by omega)
 ·rintro (h1 | h1) <;> exact .inl (by omega)
theorem Z4 (m:Nat->Bool) (n:Nat):Rank m n (Bz m n):=by
 have self:∀ {b},b < n->CL m n b = true->Bz m n b = b:=fun {b} hb h=>by
  have h1:=(E8 hb h).1
  have:=(G8 hb h h1).seg
  rw [Sx hb] at this
  exact this
 exact ⟨fun {b t j} h=>by rw [h.seg,self h.lb h.st],λhb hc h1 h2 h=>by rw [self hb h1,self hc h2] at h; exact h⟩
theorem HL {m:Nat->Bool} {n b:Nat} (hb:b < n):CL m n b = m (if b = 0 then n - 1 else b - 1):=by
 unfold CL rnd
 congr 1
 rw [Bv (by omega)]
 split <;> split <;> omega
theorem X2 {m:Nat->Bool} {n b t j:Nat} (h:InSeg m n b t j):AZ m n j = AZ m n b:=by
 have hb:=h.lb
 have ht:=h.lt
 have run:∀ c e,(∀ s,s < e->m (c+s) = false)->Al m (c+e) = Al m c:=λc e=>by
  induction e with
  | zero=>intro _; rfl
  | succ e ih=>intro hs; rw [<- Nat.add_assoc,By (hs e (by omega)),ih λs hs'=>hs s (by omega)]
 rcases Nat.lt_or_ge (b+t) n with hc | hc
 ·have hj:j = b+t:=by rw [h.eq]; exact Nat.mod_eq_of_lt hc
  have:=run b t λs hs=>by
   have:=h.go s hs
   unfold rnd at this
   rwa [Nat.mod_eq_of_lt (by omega)] at this
  unfold AZ
  rw [hj,this]
 ·have hj:j = b+t - n:=by
   rw [h.eq]; unfold rnd
   rw [Bv (by omega)]
   split <;> omega
  have h1:=run b (n - b) λs hs=>by
   have:=h.go s (by omega)
   unfold rnd at this
   rwa [Nat.mod_eq_of_lt (by omega)] at this
  rw [show b+(n - b) = n by omega] at h1
  have h2:Al m j = 0:=GJ λi hi=>by
   have:=h.go (i+(n - b)) (by omega)
   unfold rnd at this
   rw [show b+(i+(n - b)) = i+n by omega,Nat.add_mod_right,Nat.mod_eq_of_lt (by omega)] at this
   exact this
  unfold AZ
  rw [h2,<- h1,if_pos rfl]
  split
  ·rfl
  ·rfl
theorem NG {m:Nat->Bool} {n:Nat}:∀ {b c:Nat},b < c->c < n->CL m n b = true->CL m n c = true->AZ m n b ≠ AZ m n c:=fun {b c} hbc hc h1 h2 he=>by
 rw [HL (by omega)] at h1 h2
 rw [if_neg (by omega)] at h2
 have e2:=Bl h2
 rw [show c - 1+1 = c by omega] at e2
 have m1:=Bc m (show b <= c - 1 by omega)
 have m2:=Bc m (show c <= n by omega)
 unfold AZ at he
 by_cases h0:b = 0
 ·rw [if_pos h0] at h1
  have e1:=Bl h1
  rw [show n - 1+1 = n by omega] at e1
  have m3:=Bc m (show c <= n - 1 by omega)
  have:Al m b = 0:=by rw [h0]; rfl
  split at he <;> split at he <;> omega
 ·rw [if_neg h0] at h1
  have e1:=Bl h1
  rw [show b - 1+1 = b by omega] at e1
  split at he <;> split at he <;> omega
theorem Lz (m:Nat->Bool) (n:Nat):Rank m n (AZ m n):=⟨X2,fun {b c} hb hc h1 h2 h=>by
 rcases Nat.lt_trichotomy b c with h3 | h3 | h3
 ·exact absurd h (NG h3 hc h1 h2)
 ·exact h3
 ·exact absurd h.symm (NG h3 hb h2 h1)⟩
theorem UC {m:Nat->Bool} {n k:Nat} (hk:k < Al m n):∃ b,b < n ∧ CL m n b = true ∧ AZ m n b = k:=by
 have up:∀ e v,0 < v->v <= Al m e->∃ b,0 < b ∧ b <= e ∧ Al m b = v ∧ m (b - 1) = true:=λe=>by
  induction e with
  | zero=>intro v h0 h; simp [Al] at h; omega
  | succ e ih =>
   intro v h0 h
   by_cases hv:v <= Al m e
   ·obtain ⟨b,h1,h2,h3⟩:=ih v h0 hv
    exact ⟨b,h1,by omega,h3⟩
   ·cases hm:m e with
    | false=>rw [By hm] at h; omega
    | true =>
     rw [Bl hm] at h
     exact ⟨e+1,by omega,Nat.le_refl _,by rw [Bl hm]; omega,by simpa using hm⟩
 have hn:0 < n:=by
  rcases Nat.eq_zero_or_pos n with h | h
  ·subst h; simp [Al] at hk
  ·exact h
 by_cases h0:k = 0
 ·cases hm:m (n - 1) with
  | true =>
   refine ⟨0,hn,by rw [HL hn,if_pos rfl]; exact hm,?_⟩
   unfold AZ
   rw [show Al m 0 = 0 from rfl]
   split <;> omega
  | false =>
   obtain ⟨b,h1,h2,h3,h4⟩:=up n (Al m n) (by omega) (Nat.le_refl _)
   have hbn:b ≠ n:=λhe=>by rw [he,hm] at h4; cases h4
   refine ⟨b,by omega,by rw [HL (by omega),if_neg (by omega)]; exact h4,?_⟩
   unfold AZ
   rw [if_pos h3,h0]
 ·obtain ⟨b,h1,h2,h3,h4⟩:=up n k (by omega) (by omega)
  have hbn:b ≠ n:=λhe=>by rw [he] at h3; omega
  refine ⟨b,by omega,by rw [HL (by omega),if_neg (by omega)]; exact h4,?_⟩
  unfold AZ
  rw [if_neg (by omega),h3]
def stN (m:Nat->Bool) (n k:Nat):Nat:=ES (λb=>CL m n b && decide (AZ m n b = k)) n
theorem Gx {m:Nat->Bool} {n k:Nat} (hk:k < Al m n):stN m n k < n ∧ CL m n (stN m n k) = true ∧ AZ m n (stN m n k) = k ∧ ∀ i,i < stN m n k->CL m n i = true->AZ m n i ≠ k:=by
 obtain ⟨b,h1,h2,h3⟩:=UC hk
 obtain ⟨h4,h5,h6⟩:=Fn (p:=λb=>CL m n b && decide (AZ m n b = k)) h1 (by simp [h2,h3])
 simp only [Bool.and_eq_true,decide_eq_true_eq] at h5
 refine ⟨by unfold stN; omega,h5.1,h5.2,λi hi hst he=>?_⟩
 have:=h6 i hi
 simp [hst,he] at this
theorem YP {m:Nat->Bool} {n b:Nat} (hb:b < n) (h:CL m n b = true):stN m n (AZ m n b) = b:=by
 obtain ⟨h4,h5,h6⟩:=Fn (p:=λc=>CL m n c && decide (AZ m n c = AZ m n b)) hb (by simp [h])
 simp only [Bool.and_eq_true,decide_eq_true_eq] at h5
 exact (Lz m n).apart (by unfold stN; omega) hb h5.1 h h5.2
theorem Ac9 {m:Nat->Bool} {n k:Nat} (hk:k <= n) (h:0 < Al m n):AZ m n k < Al m n:=by
 have:=Bc m hk
 unfold AZ
 split <;> omega
def AeJ (w:Nat->Bool) (n b v:Nat):Nat:=rnd n b (ES (λt=>w (rnd n b t) && decide (wcN w n b t = v)) n)
theorem VF {w:Nat->Bool} {n b t:Nat} (ht:t < n) (h:w (rnd n b t) = true):AeJ w n b (wcN w n b t) = rnd n b t:=by
 unfold AeJ
 rw [MK (k:=t) ht (by simp [h]) λi hi=>?_]
 cases hw:w (rnd n b i) with
 | false=>simp
 | true =>
  have h1:wcN w n b (i+1) = wcN w n b i+1:=Bl (p:=λt=>w (rnd n b t)) hw
  have h2:wcN w n b (i+1) <= wcN w n b t:=Bc _ (by omega)
  simp
  omega
section
variable (m w:Nat->Bool) (n:Nat)
def Yw (i:Nat):Nat:=wcN w n (Bz m n i) (HE m n i+1)
def rfN (i:Nat):Int:=bif w i then -1 else wlN w n (Bz m n i) (HE m n i)
def lnN (k:Nat):Nat:=wcN w n (stN m n k) (Cw m n (stN m n k))
def coN (k j:Nat):Nat:=AeJ w n (stN m n k) j
end
theorem TR {w:Nat->Bool} {n b t:Nat} (h:w (rnd n b t) = true):wcN w n b (t+1) = wcN w n b t+1:=Bl (p:=λt=>w (rnd n b t)) h
theorem TS {w:Nat->Bool} {n b t:Nat} (h:w (rnd n b t) = false):wcN w n b (t+1) = wcN w n b t:=By (p:=λt=>w (rnd n b t)) h
theorem Ai6 {w:Nat->Bool} {n b t:Nat} (h:w (rnd n b t) = true):wlN w n b (t+1) = ofNat (rnd n b t):=by rw [wlN,h]; rfl
theorem Ai7 {w:Nat->Bool} {n b t:Nat} (h:w (rnd n b t) = false):wlN w n b (t+1) = wlN w n b t:=by rw [wlN,h]; rfl
theorem TU {m w:Nat->Bool} {n b t j:Nat} (h:InSeg m n b t j):Yw m w n j = wcN w n b (t+1):=by
 unfold Yw
 rw [h.seg,h.dst]
theorem Zx {m w:Nat->Bool} {n b t j:Nat} (h:InSeg m n b t j) (hw:w j = false):rfN m w n j = wlN w n b t:=by
 unfold rfN
 rw [h.seg,h.dst,hw]
 rfl
theorem AmU {m w:Nat->Bool} {n j:Nat} (hw:w j = true):rfN m w n j = -1:=by
 unfold rfN
 rw [hw]
 rfl
theorem GI {p q:Nat->Bool}:∀ {n:Nat},(∀ i,i < n->p i = q i)->Al p n = Al q n
 | 0,_=>rfl
 | n+1,h=>by
  have ih:=GI (n:=n) λi hi=>h i (by omega)
  have he:=h n (by omega)
  cases hq:q n with
  | true=>rw [Bl hq,Bl (he.trans hq),ih]
  | false=>rw [By hq,By (he.trans hq),ih]
structure Ev5 where
 th:Int
 pl:Int
 dir:Int
 loc:Int
 val:Int
def evV (e:Ev5):V:=.agg [iV e.th,iV e.pl,iV e.dir,iV e.loc,iV e.val]
section
variable (n:Nat) (g:Nat->E6)
def obF (i:Nat):Bool:=Ax (g i)
def mbF (i:Nat):Bool:=Aw (g i)
def wrF (i:Nat):Bool:=ieq (g i).src 2
def thF:Nat->Int:=A0 (obF g) n
def loF:Nat->Int:=A0 (mbF g) n
def loN:Nat->Nat:=AZ (mbF g) n
def kkN:Nat:=Al (mbF g) n
def plF (i:Nat):Nat:=Al (λk=>ieq (thF n g i) (thF n g k)) i
def evF (d:Nat->Bool) (i:Nat):Ev5:=bif decide (i < n) then ⟨thF n g i,ofNat (plF n g i),(g i).src,loF n g i,bif d i then ofNat (Yw (mbF g) (wrF g) n i) else 0⟩ else ⟨0,0,0,0,0⟩
def rfF (d:Nat->Bool) (i:Nat):Int:=bif d i then rfN (mbF g) (wrF g) n i else -1
def dnF (r:Nat->Nat) (b t j:Nat):Bool:=decide (j < n) && Gd (mbF g) n r b t j
def lnP (b t k:Nat):Nat:=if k < kkN n g then (if stN (mbF g) n k < b then lnN (mbF g) (wrF g) n k else if stN (mbF g) n k = b then wcN (wrF g) n b t else 0) else 0
def coP (b t k j:Nat):Int:=if j < lnP n g b t k then ofNat (coN (mbF g) (wrF g) n k j) else 0
end
theorem Adj {n:Nat} {g:Nat->E6} {i:Nat} (h:i < n):loF n g i = ofNat (loN n g i):=FS h
theorem OB {n:Nat} {g:Nat->E6} {r:Nat->Nat} (hr:Rank (mbF g) n r) {b t:Nat} (hb:b < n) (h:CL (mbF g) n b = true) (ht:t < Cw (mbF g) n b) (j:Nat) :
  dnF n g r (r b) (t+1) j = (decide (j = rnd n b t) || dnF n g r (r b) t j):=by
 unfold dnF
 by_cases hj:j < n
 ·rw [XU hr hb h ht hj]
  simp [hj]
 ·have:j ≠ rnd n b t:=λhe=>hj (by rw [he]; exact Gk (by omega))
  simp [hj,this]
theorem WR {n:Nat} {g:Nat->E6} {r:Nat->Nat} (hr:Rank (mbF g) n r) {b:Nat} (hb:b < n) (h:CL (mbF g) n b = true):dnF n g r (r b) (Cw (mbF g) n b) = dnF n g r (r b+1) 0:=by
 funext j
 unfold dnF
 by_cases hj:j < n
 ·rw [AaQ hr hb h hj]
 ·simp [hj]
theorem YW {m:Nat->Bool} {n b:Nat} (hb:b < n) (h:CL m n b = true):Bz m n b = b:=by
 have h1:=(E8 hb h).1
 have:=(G8 hb h h1).seg
 rw [Sx hb] at this
 exact this
theorem YO {m:Nat->Bool} {n b k:Nat} (hb:b < n) (h:CL m n b = true) (hk:k < Al m n):stN m n k = b ↔ k = AZ m n b:=by
 constructor
 ·intro he
  rw [<- he,(Gx hk).2.2.1]
 ·intro he
  rw [he,YP hb h]
theorem SR {n:Nat} {g:Nat->E6} {b:Nat} (hb:b < n) (h:0 < kkN n g):loN n g b < kkN n g:=Ac9 (Nat.le_of_lt hb) h
theorem Ia {n:Nat} {g:Nat->E6} {b:Nat} (hb:b < n) (h:CL (mbF g) n b = true):0 < kkN n g:=by
 unfold kkN
 have hn:0 < n:=by omega
 rw [HL hb] at h
 generalize hk:(if b = 0 then n - 1 else b - 1) = k at h
 have hkn:k < n:=by rw [<- hk]; split <;> omega
 have h1:=Bl h
 have h2:=Bc (mbF g) (show k+1 <= n by omega)
 omega
theorem Aew {n:Nat} {g:Nat->E6} {b t:Nat} (hb:b < n) (h:CL (mbF g) n b = true) (hw:wrF g (rnd n b t) = true) (k:Nat):lnP n g b (t+1) k = if k = loN n g b then lnP n g b t k+1 else lnP n g b t k:=by
 have hl:=SR hb (Ia hb h)
 unfold lnP
 by_cases hk:k < kkN n g
 ·have:=YO hb h hk
  rw [if_pos hk,if_pos hk]
  by_cases he:k = loN n g b
  ·have h2:=this.2 he
   rw [if_pos he,if_neg (by omega),if_pos h2,if_neg (by omega),if_pos h2,TR hw]
  ·have h2:stN (mbF g) n k ≠ b:=λh3=>he (this.1 h3)
   rw [if_neg he,if_neg h2,if_neg h2]
 ·rw [if_neg hk,if_neg hk,if_neg (by omega)]
theorem Aab {n:Nat} {g:Nat->E6} {b t:Nat} (hw:wrF g (rnd n b t) = false):lnP n g b (t+1) = lnP n g b t:=by
 funext k
 unfold lnP
 rw [TS hw]
theorem UP {n:Nat} {g:Nat->E6} {b t:Nat} (hb:b < n) (h:CL (mbF g) n b = true):lnP n g b t (loN n g b) = wcN (wrF g) n b t:=by
 have hl:=SR hb (Ia hb h)
 have h2:=(YO hb h hl).2 rfl
 unfold lnP
 rw [if_pos hl,if_neg (by omega),if_pos h2]
theorem AlP {n:Nat} {g:Nat->E6} {b t:Nat} (hb:b < n) (h:CL (mbF g) n b = true) (ht:t < n) (hw:wrF g (rnd n b t) = true) (k j:Nat) :
  coP n g b (t+1) k j = if k = loN n g b ∧ j = lnP n g b t k then ofNat (rnd n b t) else coP n g b t k j:=by
 have hl:=SR hb (Ia hb h)
 unfold coP
 rw [Aew hb h hw]
 by_cases hk:k = loN n g b
 ·subst hk
  have h2:=(YO hb h hl).2 rfl
  have h2:stN (mbF g) n (loN n g b) = b:=h2
  rw [if_pos rfl,UP hb h]
  by_cases hj:j = wcN (wrF g) n b t
  ·rw [if_pos (by omega),if_pos ⟨rfl,hj⟩,hj]
   unfold coN
   rw [h2,VF ht hw]
  ·have h4:¬ (loN n g b = loN n g b ∧ j = wcN (wrF g) n b t):=λh=>hj h.2
   by_cases h3:j < wcN (wrF g) n b t
   ·simp [hj,h3,show j < wcN (wrF g) n b t+1 by omega]
   ·simp [hj,h3,show ¬ j < wcN (wrF g) n b t+1 by omega]
 ·simp only [if_neg hk,if_neg (λh:k = loN n g b ∧ j = lnP n g b t k=>hk h.1)]
theorem AeD {n:Nat} {g:Nat->E6} {b t:Nat} (hw:wrF g (rnd n b t) = false):coP n g b (t+1) = coP n g b t:=by
 funext k j
 unfold coP
 rw [Aab hw]
theorem Wv {n:Nat} {g:Nat->E6} {b:Nat}:lnP n g b (Cw (mbF g) n b) = lnP n g (b+1) 0:=by
 funext k
 have h0:wcN (wrF g) n (b+1) 0 = 0:=rfl
 unfold lnP
 split
 ·by_cases h1:stN (mbF g) n k < b
  ·rw [if_pos h1,if_pos (by omega)]
  ·rw [if_neg h1]
   by_cases h2:stN (mbF g) n k = b
   ·rw [if_pos h2,if_pos (by omega)]
    unfold lnN
    rw [h2]
   ·rw [if_neg h2,if_neg (by omega),h0]
    split <;> rfl
 ·rfl
theorem SS {n:Nat} {g:Nat->E6} {b:Nat} (h:CL (mbF g) n b = false):lnP n g b 0 = lnP n g (b+1) 0:=by
 funext k
 have h0:wcN (wrF g) n (b+1) 0 = 0:=rfl
 have h1:wcN (wrF g) n b 0 = 0:=rfl
 unfold lnP
 rw [h0,h1]
 by_cases hk:k < kkN n g
 ·have h2:=Gx hk
  have:stN (mbF g) n k ≠ b:=λhe=>by
   have:=h2.2.1
   rw [he,h] at this
   cases this
  rw [if_pos hk,if_pos hk]
  by_cases h3:stN (mbF g) n k < b
  ·rw [if_pos h3,if_pos (by omega)]
  ·simp only [if_neg h3,if_neg (show ¬ stN (mbF g) n k < b+1 by omega),if_neg this]
   split <;> rfl
 ·rw [if_neg hk,if_neg hk]
theorem Abg {n:Nat} {g:Nat->E6} {b t b' t':Nat} (h:lnP n g b t = lnP n g b' t'):coP n g b t = coP n g b' t':=by
 funext k j
 unfold coP
 rw [h]
theorem Aex (n:Nat) (g:Nat->E6):lnP n g 0 0 = λ_=>0:=by
 funext k
 have h0:wcN (wrF g) n 0 0 = 0:=rfl
 unfold lnP
 rw [h0]
 split
 ·rw [if_neg (by omega)]
  split <;> rfl
 ·rfl
theorem AlQ (n:Nat) (g:Nat->E6):coP n g 0 0 = λ_ _=>0:=by
 funext k j
 unfold coP
 rw [Aex]
 simp
theorem Cg {n:Nat} {g:Nat->E6} {d:Nat->Bool} {i:Nat} (h:i < n):evF n g d i = ⟨thF n g i,ofNat (plF n g i),(g i).src,loF n g i,bif d i then ofNat (Yw (mbF g) (wrF g) n i) else 0⟩:=by
 unfold evF
 rw [decide_eq_true h]
 rfl
theorem LK {n:Nat} {g:Nat->E6} {d d':Nat->Bool} {X:Nat} {v:Int} (hXn:X < n) (hd:∀ j,d' j = (decide (j = X) || d j)) (hv:v = ofNat (Yw (mbF g) (wrF g) n X)) :
  (λi=>V.agg [iV (sel (AD i X) (evF n g d X).th (evF n g d i).th),iV (sel (AD i X) (evF n g d X).pl (evF n g d i).pl),iV (sel (AD i X) (evF n g d X).dir (evF n g d i).dir),iV (sel (AD i X) (evF n g d X).loc (evF n g d i).loc),iV (sel (AD i X) v (evF n g d i).val)]) = λi=>evV (evF n g d' i):=by
 funext i
 cases hX:AD i X with
 | true =>
  have:=Nat.eq_of_beq_eq_true hX
  subst this
  unfold evV
  simp only [YV]
  rw [Cg hXn,Cg hXn,hd,hv]
  simp
 | false =>
  have hne:i ≠ X:=λhe=>by rw [he] at hX; unfold AD at hX; rw [Nat.beq_refl] at hX; cases hX
  unfold evV
  simp only [Xo]
  have:d' i = d i:=by rw [hd]; simp [hne]
  unfold evF
  rw [this]
theorem U7 {n:Nat} {g:Nat->E6} {d d':Nat->Bool} {X:Nat} {v:Int} (hd:∀ j,d' j = (decide (j = X) || d j)) (hv:v = rfN (mbF g) (wrF g) n X):Bu (λi=>iV (rfF n g d i)) X (iV v) = λi=>iV (rfF n g d' i):=by
 rw [Cl]
 funext i
 unfold Nj rfF
 rw [hd]
 by_cases h:i = X
 ·subst h
  simp [hv]
 ·simp [h]
theorem QE {n:Nat} {g:Nat->E6} {d d':Nat->Bool} {X:Nat} (hd:∀ j,d' j = (decide (j = X) || d j)) (hw:wrF g X = true):rfF n g d' = rfF n g d:=by
 funext i
 unfold rfF
 rw [hd]
 by_cases h:i = X
 ·subst h
  rw [AmU hw]
  cases d i <;> simp
 ·simp [h]
end Go.Proofs.Ytjhnfomefcngfaa.Sh
namespace Go.Sy
def CLe (c c':FuncId->List V->St->T (V × Res)):Prop:=∀ f vs st,TLe (c f vs st) (c' f vs st)
theorem CLe.refl (c:FuncId->List V->St->T (V × Res)):CLe c c:=λ_ _ _=>TLe.refl _
section
variable {τ:List Ty} {c c':FuncId->List V->St->T (V × Res)} {G:Nat->V}
theorem O0 (st:St) (x:Operand):ev ⟨c,G⟩ st x = ev ⟨c',G⟩ st x:=by cases x <;> rfl
theorem OM (st:St):∀ l:List Operand,args ⟨c,G⟩ st l = args ⟨c',G⟩ st l
 | []=>rfl
 | x :: l=>by
  show ev ⟨c,G⟩ st x :: args ⟨c,G⟩ st l = ev ⟨c',G⟩ st x :: args ⟨c',G⟩ st l
  rw [O0 (c:=c) (c':=c'),OM st l]
theorem Ru (st:St):∀ l:List (Nat × Operand),evs ⟨c,G⟩ st l = evs ⟨c',G⟩ st l
 | []=>rfl
 | (i,x) :: l=>by
   show (i,ev ⟨c,G⟩ st x) :: evs ⟨c,G⟩ st l = (i,ev ⟨c',G⟩ st x) :: evs ⟨c',G⟩ st l
   rw [O0 (c:=c) (c':=c'),Ru st l]
theorem Po (h:CLe c c') (o:Oper) (st:St):TLe (Fw τ ⟨c,G⟩ o st) (Fw τ ⟨c',G⟩ o st):=by
 have e1:=λst x=>O0 (c:=c) (c':=c') (G:=G) st x
 have e2:=λst x=>OM (c:=c) (c':=c') (G:=G) st x
 have e3:=λst x=>Ru (c:=c) (c':=c') (G:=G) st x
 unfold Fw
 cases ho:o.op with
 | call k =>
  simp only
  cases hk:k.callee with
  | value f =>
   simp only [e1,e2]
   split
   ·exact TLe.bind (h _ _ _) λ_=>TLe.refl _
   ·exact TLe.refl _
  | builtin b =>
   simp only [e2]
   cases b <;> exact TLe.refl _
  | invoke r m=>exact TLe.refl _
 | makeFunc fn first captured =>
  simp only [e1,e2,e3]
  cases fn <;> exact TLe.refl _
 | slice t x lo hi mx =>
  have e4:ev (⟨c,G⟩:Cx0) st = ev ⟨c',G⟩ st:=funext (e1 st)
  simp only [e4]
  cases mx <;> exact TLe.refl _
 | lookup t m x ok =>
  simp only [e1,e2,e3]
  cases ok <;> exact TLe.refl _
 | _ =>
  simp only [e1,e2,e3]
  exact TLe.refl _
theorem YN (h:CLe c c') (o:Oper) (st:St):TLe (step τ ⟨c,G⟩ o st) (step τ ⟨c',G⟩ o st):=by
 have e1:=λst x=>O0 (c:=c) (c':=c') (G:=G) st x
 have e2:=λst x=>OM (c:=c) (c':=c') (G:=G) st x
 have e3:=λst x=>Ru (c:=c) (c':=c') (G:=G) st x
 have quiet:TLe (keep st (Fw τ ⟨c,G⟩ o st)) (keep st (Fw τ ⟨c',G⟩ o st)):=TLe.bind (Po h o st) λ_=>TLe.refl _
 have e4:ev (⟨c,G⟩:Cx0) st = ev ⟨c',G⟩ st:=funext (e1 st)
 have loud:∀ k:Call,TLe (Sc τ ⟨c,G⟩ k st) (Sc τ ⟨c',G⟩ k st):=λk=>by
  unfold Sc
  cases hk:k.callee with
  | value f =>
   simp only [e1,e2]
   split
   ·exact TLe.bind (h _ _ _) λ_=>TLe.refl _
   ·exact TLe.refl _
  | builtin b =>
   simp only [e2]
   cases b <;> exact TLe.refl _
  | invoke r m=>exact TLe.refl _
 unfold step
 cases ho:o.op with
 | call k =>
  simp only
  split
  ·exact loud k
  ·exact quiet
 | slice t x lo hi mx =>
  simp only [e4]
  cases mx with
  | none =>
   simp only
   split
   ·exact TLe.refl _
   ·exact quiet
  | some m=>exact quiet
 | makeMap t r =>
  cases r with
  | none=>exact TLe.refl _
  | some r=>exact quiet
 | _ =>
  simp only [e1,e3,e4]
  first
   | exact TLe.refl _
   | exact quiet
theorem PP {α:Type} {all:Array Oper} {st:St} {o:Oper} {r r' k:T α} (h:TLe r r'):TLe (Id all st o r k) (Id all st o r' k):=by
 have br:∀ b,TLe (T.br b r k) (T.br b r' k):=λb=>by
  cases b with
  | true=>exact h
  | false=>exact TLe.refl _
 have br':∀ b,TLe (T.br b k r) (T.br b k r'):=λb=>by
  cases b with
  | true=>exact TLe.refl _
  | false=>exact h
 unfold Id
 split
 ·exact h
 ·split
  ·split
   ·split
    ·split
     ·exact br _
     ·exact br' _
    ·exact TLe.refl _
    ·exact TLe.refl _
   ·exact TLe.refl _
  ·exact TLe.refl _
theorem P1 (h:CLe c c') (all:Array Oper) (o:Oper) (st:St):TLe (N7 τ ⟨c,G⟩ all o st) (N7 τ ⟨c',G⟩ all o st) :=
 PP (TLe.bind (YN h o st) λ_=>TLe.refl _)
theorem Jy (h:CLe c c') (all:Array Oper):∀ (l:List Oper) (st:St),TLe (EL τ ⟨c,G⟩ all l st) (EL τ ⟨c',G⟩ all l st)
 | [],_=>TLe.refl _
 | o :: l,st=>TLe.bind (P1 h all o st) λst=>Jy h all l st
theorem Jz (h:CLe c c') (all:Array Oper) (o:Oper) (st:St):TLe (Dg τ ⟨c,G⟩ all o st) (Dg τ ⟨c',G⟩ all o st) :=
 PP (Po h o _)
theorem Ha (h:CLe c c') (all:Array Oper):∀ (l:List Oper) (st:St),TLe (Fz τ ⟨c,G⟩ all l st) (Fz τ ⟨c',G⟩ all l st)
 | [],_=>TLe.refl _
 | o :: l,st=>TLe.bind (Jz h all o st) λv=>Ha h all l _
theorem Mk (h:CLe c c') (all:Array Oper):∀ (l:List Nat) (st:St),TLe (Hb τ ⟨c,G⟩ all l st) (Hb τ ⟨c',G⟩ all l st)
 | [],_=>TLe.refl _
 | q :: l,st=>by
  simp only [Hb]
  split
  ·exact TLe.bind (Jz h all _ st) λv=>Mk h all l _
  ·exact TLe.refl _
theorem DG (h:CLe c c') (all:Array Oper):∀ (l:List Nat) (st:St),TLe (Ds τ ⟨c,G⟩ all l st) (Ds τ ⟨c',G⟩ all l st)
 | [],_=>TLe.refl _
 | q :: l,st=>by
  simp only [Ds]
  split
  ·split
   ·exact TLe.bind (Jz h all _ st) λv=>TLe.bind (TLe.refl _) λ_=>DG h all l st
   ·exact TLe.refl _
  ·exact TLe.refl _
theorem WB (st:St) (x:Operand):ev ⟨c,G⟩ st x = ev ⟨c',G⟩ st x:=by cases x <;> rfl
theorem Sq (st:St) (y:Operand):Sr ⟨c,G⟩ st y = Sr ⟨c',G⟩ st y:=by
 unfold Sr
 rw [WB (c:=c) (c':=c')]
theorem Xp (all:Array Oper) (st:St):Mi ⟨c,G⟩ all st = Mi ⟨c',G⟩ all st:=by
 funext q
 unfold Mi
 simp only [Sq (c:=c) (c':=c')]
theorem XN (all:Array Oper) (o:Oper) (st:St):Ov ⟨c,G⟩ all o st = Ov ⟨c',G⟩ all o st:=by
 funext q
 unfold Ov
 simp only [Sq (c:=c) (c':=c'),WB (c:=c) (c':=c')]
theorem X3 (h:CLe c c') (all:Array Oper) (bf:Array Nat) (lts vs:List Nat) (i:Nat) (st:St):TLe (SF τ ⟨c,G⟩ all bf lts vs i st) (SF τ ⟨c',G⟩ all bf lts vs i st):=by
 unfold SF
 split
 ·split
  ·rw [Xp (c:=c) (c':=c')]
   exact TLe.bind (TLe.refl _) λ_=>TLe.bind (DG h all _ _) λ_=>TLe.bind (DG h all _ _) λ_=>TLe.bind (DG h all _ _) λ_=>TLe.refl _
  ·exact TLe.refl _
 ·exact TLe.refl _
theorem Fd (h:CLe c c') (all:Array Oper) (bf:Array Nat) (lts vs ps sk:List Nat):∀ (l:List Oper) (i:Nat) (st:St),TLe (CS τ ⟨c,G⟩ all bf lts vs ps sk i l st) (CS τ ⟨c',G⟩ all bf lts vs ps sk i l st)
 | [],_,_=>TLe.refl _
 | o :: l,i,st=>by
  simp only [CS]
  split
  ·exact Fd h all bf lts vs ps sk l _ st
  ·split
   ·exact TLe.bind (X3 h all bf lts vs i st) λst1=>Fd h all bf lts vs ps sk l _ st1
   ·rw [XN (c:=c) (c':=c')]
    exact TLe.bind (TLe.refl _) λ_=>TLe.bind (P1 h all o st) λst1=>TLe.bind (DG h all _ st1) λ_=>Fd h all bf lts vs ps sk l _ st1
theorem Aae (h:CLe c c') (ops:Array Oper) (m:Nat) (es ls:List Nat) (st:St):TLe (Dk τ ⟨c,G⟩ ops m es ls st) (Dk τ ⟨c',G⟩ ops m es ls st):=by
 unfold Dk FX Kx
 split
 ·exact TLe.bind (Ha h ops _ st) λst=>TLe.bind (Mk h ops ls st) λst=>TLe.bind (TLe.refl _) λ_=>TLe.bind (DG h ops _ st) λ_=>TLe.bind (Fd h ops _ _ _ _ _ _ _ st) λ_=>TLe.refl _
 ·exact TLe.refl _
theorem LJ {L L':Nat->(St->T (Ex × St))->St->T (Ex × St)} (h:CLe c c') (hL:LLe L L') :
  ∀ (k:Code) (id:Nat) (st:St),TLe (AC τ ⟨c,L,G⟩ k id st) (AC τ ⟨c',L',G⟩ k id st):=by
 intro k
 induction k with
 | skip=>intro id st; exact TLe.refl _
 | region i ops draw =>
  intro id st
  simp only [AC]
  split
  ·exact TLe.bind (Jy h ops _ st) λ_=>TLe.refl _
  ·split
   ·split
    ·split
     ·exact TLe.bind (Ha h ops _ st) λst=>TLe.bind (Jy h ops _ st) λ_=>TLe.refl _
     ·exact TLe.refl _
    ·exact Aae h ops _ _ _ st
   ·exact TLe.refl _
 | seq a b iha ihb =>
  intro id st
  refine TLe.bind (iha id st) λr=>?_
  cases r.1 with
  | nm=>exact ihb id r.2
  | ex j=>exact TLe.refl _
  | rt=>exact TLe.refl _
 | cond x a b iha ihb =>
  intro id st
  have e1:=O0 (c:=c) (c':=c') (G:=G) st x
  show TLe (match ev ⟨c,G⟩ st x with | .val (.bool q)=>T.br q (AC τ ⟨c,L,G⟩ a id st) (AC τ ⟨c,L,G⟩ b id st) | _=>.fail) (match ev ⟨c',G⟩ st x with | .val (.bool q)=>T.br q (AC τ ⟨c',L',G⟩ a id st) (AC τ ⟨c',L',G⟩ b id st) | _=>.fail)
  rw [e1]
  split
  ·rename_i q _
   cases q with
   | true=>exact iha id st
   | false=>exact ihb id st
  ·exact TLe.refl _
 | block i c ih =>
  intro id st
  refine TLe.bind (ih i st) λr=>?_
  cases r.1 with
  | nm=>exact TLe.refl _
  | ex j=>exact TLe.refl _
  | rt=>exact TLe.refl _
 | loop c ih =>
  intro id st
  exact hL id _ _ st (ih id)
 | exit i=>intro id st; exact TLe.refl _
 | ret=>intro id st; exact TLe.refl _
 | _=>intro id st; exact TLe.refl _
theorem LI {fn:Func} {vs:List V} {H:List Blk} {L L':Nat->(St->T (Ex × St))->St->T (Ex × St)} (h:CLe c c') (hL:LLe L L'):TLe (Ai τ ⟨c,L,G⟩ fn vs H) (Ai τ ⟨c',L',G⟩ fn vs H):=by
 unfold Ai
 cases fn.body with
 | none=>exact TLe.refl _
 | some k=>exact TLe.bind (LJ h hL k 0 _) λ_=>TLe.refl _
theorem told_leC {fn:Func} {vs:List V} {L L':Nat->(St->T (Ex × St))->St->T (Ex × St)} (h:CLe c c') (hL:LLe L L'):TLe (Ar (Ai τ ⟨c,L,G⟩ fn vs [])) (Ar (Ai τ ⟨c',L',G⟩ fn vs [])) :=
 TLe.bind (LI h hL) λ_=>TLe.refl _
end
def onC (k:Nat) (p:List V->St->Bool) (r:V × Res) (c:FuncId->List V->St->T (V × Res)):FuncId->List V->St->T (V × Res) :=
 λf vs st=>match Nat.beq f k with
  | true=>.br (p vs st) (.leaf r) .fail
  | false=>c f vs st
noncomputable def isC (c:FuncId->List V->St->T (V × Res)) (k:Nat) (r:V × Res):List V->St->Bool :=
 λvs st=>@decide ((c k vs st).sem = some r) (Classical.propDecidable _)
theorem Tc {c:FuncId->List V->St->T (V × Res)} {k:Nat} {r:V × Res} {vs:List V} {st:St} (h:(c k vs st).sem = some r):isC c k r vs st = true:=by
 unfold isC
 exact @decide_eq_true _ (Classical.propDecidable _) h
theorem ZB {c' c:FuncId->List V->St->T (V × Res)} {k:Nat} {r:V × Res} (hc:CLe c' c):CLe (onC k (isC c k r) r c') c:=λf vs st r' hr=>by
 unfold onC at hr
 cases hk:Nat.beq f k with
 | true =>
  rw [hk] at hr
  obtain ⟨h1,h2⟩:=Ad hr
  rw [Ac h2]
  unfold isC at h1
  have h1:=@of_decide_eq_true _ (Classical.propDecidable _) h1
  rw [Nat.eq_of_beq_eq_true hk]
  exact h1
 | false =>
  rw [hk] at hr
  exact hc f vs st _ hr
end Go.Sy
