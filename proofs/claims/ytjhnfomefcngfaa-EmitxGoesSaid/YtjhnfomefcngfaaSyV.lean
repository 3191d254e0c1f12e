/-
  Layer 7, plain: a cycle's segments going round, its events' values, what its reads read, its locations' writes in order. No program here, no conditions.
-/
import Derived.Test.YtjhnfomefcngfaaShB
import Derived.Test.YtjhnfomefcngfaaSyS
import Derived.Test.YtjhnfomefcngfaaCyA
namespace Go.Proofs.Ytjhnfomefcngfaa.Sh
open Go.Sy Ed
open Int (ofNat)
def E4 (p:Nat->Bool) (n:Nat):Nat:=match (List.range n).find? p with
 | some k=>k
 | none=>n
theorem Ky {p:Nat->Bool} {n k:Nat} (hk:k < n) (h:p k = true) (hb:∀ i,i < k->p i = false):E4 p n = k:=by
 unfold E4
 have:(List.range n).find? p = some k:=by
  rw [List.find?_range_eq_some]
  exact ⟨h,by simpa using hk,λj hj=>by rw [hb j hj]; rfl⟩
 rw [this]
theorem E3 {p:Nat->Bool} {n k:Nat} (hk:k < n) (h:p k = true):E4 p n <= k ∧ p (E4 p n) = true ∧ ∀ i,i < E4 p n->p i = false:=by
 unfold E4
 cases hf:(List.range n).find? p with
 | none =>
  rw [List.find?_eq_none] at hf
  exact absurd h (hf k (by simpa using hk))
 | some z =>
  rw [List.find?_range_eq_some] at hf
  obtain ⟨h1,_,h3⟩:=hf
  refine ⟨?_,h1,λi hi=>by simpa using h3 i hi⟩
  apply Nat.le_of_not_lt
  intro hc
  have:=h3 k hc
  rw [h] at this
  cases this
theorem Jk {p:Nat->Bool} {n:Nat} (h:∀ i,i < n->p i = false):E4 p n = n:=by
 unfold E4
 have:(List.range n).find? p = none:=by
  rw [List.find?_eq_none]
  intro k hk
  rw [h k (by simpa using hk)]
  simp
 rw [this]
theorem Ab9 (p:Nat->Bool) (n:Nat):E4 p n <= n:=by
 by_cases h:∃ i,i < n ∧ p i = true
 ·obtain ⟨i,h1,h2⟩:=h
  have:=(E3 h1 h2).1
  omega
 ·rw [Jk λi hi=>by
   cases hp:p i with
   | false=>rfl
   | true=>exact absurd ⟨i,hi,hp⟩ h]
  exact Nat.le_refl _
section
variable (m w:Nat->Bool) (n:Nat)
def rnd (i t:Nat):Nat:=(i+t) % n
def CM (i:Nat):Bool:=m (rnd n i (n - 1))
def Ih (i:Nat):Nat:=E4 (λd=>m (rnd n i (n - 1 - d))) n
def By (i:Nat):Nat:=rnd n i (n - Ih m n i)
def Cp (i:Nat):Nat:=E4 (λt=>m (rnd n i t)) n+1
def wcN (i:Nat):Nat->Nat:=Ak λt=>w (rnd n i t)
def wlN (i:Nat):Nat->Int
 | 0=>-1
 | t+1=>bif w (rnd n i t) then ofNat (rnd n i t) else wlN i t
end
theorem G8 {n i t:Nat} (h:0 < n):rnd n i t < n:=Nat.mod_lt _ h
theorem H2 (n i s t:Nat):rnd n (rnd n i s) t = rnd n i (s+t):=by
 unfold rnd
 rw [Nat.mod_add_mod,Nat.add_assoc]
theorem RZ (n i t:Nat):rnd n i (t+n) = rnd n i t:=by
 unfold rnd
 rw [<- Nat.add_assoc,Nat.add_mod_right]
theorem Sa {n i:Nat} (h:i < n):rnd n i 0 = i:=Nat.mod_eq_of_lt h
theorem AaZ {n i s t:Nat} (hi:i < n) (hs:s < n) (ht:t < n) (h:rnd n i s = rnd n i t):s = t:=by
 unfold rnd at h
 rw [Bu (a:=i+s) (by omega),Bu (a:=i+t) (by omega)] at h
 split at h <;> split at h <;> omega
structure InSeg (m:Nat->Bool) (n b t j:Nat):Prop where
 lb:b < n
 lt:t < n
 st:CM m n b = true
 go:∀ s,s < t->m (rnd n b s) = false
 eq:j = rnd n b t
theorem InSeg.dst {m:Nat->Bool} {n b t j:Nat} (h:InSeg m n b t j):Ih m n j = t:=by
 have hb:=h.lb
 have ht:=h.lt
 refine Ky h.lt ?_ λd hd=>?_
 ·show m (rnd n j (n - 1 - t)) = true
  rw [h.eq,H2,show t+(n - 1 - t) = n - 1 by omega]
  exact h.st
 ·show m (rnd n j (n - 1 - d)) = false
  rw [h.eq,H2,show t+(n - 1 - d) = (t - 1 - d)+n by omega,RZ]
  exact h.go _ (by omega)
theorem InSeg.seg {m:Nat->Bool} {n b t j:Nat} (h:InSeg m n b t j):By m n j = b:=by
 have hb:=h.lb
 have ht:=h.lt
 unfold By
 rw [h.dst,h.eq,H2,show t+(n - t) = 0+n by omega,RZ,Sa hb]
theorem Zt {m:Nat->Bool} {n i k:Nat} (hi:i < n) (hk:k < n) (hm:m k = true):InSeg m n (By m n i) (Ih m n i) i:=by
 have h1:∃ d,d < n ∧ m (rnd n i (n - 1 - d)) = true:=by
  refine ⟨rnd n i (n - 1 - k),G8 (by omega),?_⟩
  have:rnd n i (n - 1 - rnd n i (n - 1 - k)) = k:=by
   unfold rnd
   rw [Bu (a:=i+(n - 1 - k)) (by omega)]
   split <;> (rw [Bu (by omega)]; split <;> omega)
  rw [this]; exact hm
 obtain ⟨d,hd,hmd⟩:=h1
 obtain ⟨h2,h3,h4⟩:=E3 (p:=λd=>m (rnd n i (n - 1 - d))) hd hmd
 have ht:Ih m n i < n:=by unfold Ih; omega
 refine ⟨G8 (by omega),ht,?_,λs hs=>?_,?_⟩
 ·unfold CM By
  rw [H2,show n - Ih m n i+(n - 1) = (n - 1 - Ih m n i)+n by omega,RZ]
  exact h3
 ·unfold By
  rw [H2]
  have:=h4 (Ih m n i - 1 - s) (by unfold Ih at *; omega)
  rw [show n - 1 - (Ih m n i - 1 - s) = n - Ih m n i+s by omega] at this
  exact this
 ·unfold By
  rw [H2,show n - Ih m n i+Ih m n i = 0+n by omega,RZ,Sa hi]
theorem ER {m:Nat->Bool} {n b:Nat} (hb:b < n) (h:CM m n b = true):0 < Cp m n b ∧ Cp m n b <= n ∧ m (rnd n b (Cp m n b - 1)) = true ∧ ∀ s,s+1 < Cp m n b->m (rnd n b s) = false:=by
 obtain ⟨h2,h3,h4⟩:=E3 (p:=λt=>m (rnd n b t)) (n:=n) (k:=n - 1) (by omega) h
 unfold Cp
 refine ⟨by omega,by omega,by simpa using h3,λs hs=>h4 s (by omega)⟩
theorem InSeg.lt_len {m:Nat->Bool} {n b t j:Nat} (h:InSeg m n b t j):t < Cp m n b:=by
 obtain ⟨h1,h2,h3,h4⟩:=ER h.lb h.st
 apply Nat.lt_of_not_le
 intro hc
 have:=h.go (Cp m n b - 1) (by omega)
 rw [h3] at this
 cases this
theorem GW {m:Nat->Bool} {n b t:Nat} (hb:b < n) (h:CM m n b = true) (ht:t < Cp m n b):InSeg m n b t (rnd n b t):=by
 obtain ⟨h1,h2,h3,h4⟩:=ER hb h
 exact ⟨hb,by omega,h,λs hs=>h4 s (by omega),rfl⟩
def Gw (m:Nat->Bool) (n:Nat) (r:Nat->Nat) (b t j:Nat):Bool:=decide (r j < b) || decide (r j = b ∧ Ih m n j < t)
structure Rank (m:Nat->Bool) (n:Nat) (r:Nat->Nat):Prop where
 same:∀ {b t j},InSeg m n b t j->r j = r b
 apart:∀ {b c},b < n->c < n->CM m n b = true->CM m n c = true->r b = r c->b = c
theorem Xh {m:Nat->Bool} {n:Nat} {r:Nat->Nat} (hr:Rank m n r) {b t:Nat} (hb:b < n) (h:CM m n b = true) (ht:t < Cp m n b) {j:Nat} (hj:j < n) :
  Gw m n r (r b) (t+1) j = (decide (j = rnd n b t) || Gw m n r (r b) t j):=by
 have hin:=Zt (m:=m) hj (G8 (t:=n - 1) (i:=b) (by omega)) h
 have hi2:=GW hb h ht
 have e1:=hr.same hin
 have e2:=hr.same hi2
 rw [Bool.eq_iff_iff]
 unfold Gw
 simp only [Bool.or_eq_true,decide_eq_true_eq]
 constructor
 ·rintro (h1 | ⟨h1,h2⟩)
  ·exact .inr (.inl h1)
  ·by_cases h3:Ih m n j < t
   ·exact .inr (.inr ⟨h1,h3⟩)
   ·left
    have h4:Ih m n j = t:=by omega
    have h5:=hr.apart hin.lb hb hin.st h (by rw [<- e1,h1])
    rw [hin.eq,h4,h5]
 ·rintro (h1 | h1 | ⟨h1,h2⟩)
  ·right
   rw [h1,e2,hi2.dst]
   exact ⟨rfl,by omega⟩
  ·exact .inl h1
  ·exact .inr ⟨h1,by omega⟩
theorem ZH {m:Nat->Bool} {n:Nat} {r:Nat->Nat} (hr:Rank m n r) {b:Nat} (hb:b < n) (h:CM m n b = true) {j:Nat} (hj:j < n) :
  Gw m n r (r b) (Cp m n b) j = Gw m n r (r b+1) 0 j:=by
 have hin:=Zt (m:=m) hj (G8 (t:=n - 1) (i:=b) (by omega)) h
 have e1:=hr.same hin
 rw [Bool.eq_iff_iff]
 unfold Gw
 simp only [Bool.or_eq_true,decide_eq_true_eq]
 constructor
 ·rintro (h1 | ⟨h1,h2⟩) <;> exact .inl (by omega)
 ·rintro (h1 | ⟨h1,h2⟩)
  ·by_cases h3:r j = r b
   ·right
    have h5:=hr.apart hin.lb hb hin.st h (by rw [<- e1,h3])
    have:=hin.lt_len
    rw [h5] at this
    exact ⟨h3,this⟩
   ·left; omega
  ·omega
theorem Tk {m:Nat->Bool} {n:Nat} {r:Nat->Nat} {b j:Nat} (h:r j < b):Gw m n r b 0 j = true:=by
 unfold Gw
 simp [h]
theorem ZI {m:Nat->Bool} {n:Nat} {r:Nat->Nat} {j:Nat}:Gw m n r 0 0 j = false:=by
 unfold Gw
 simp
theorem Xg {m:Nat->Bool} {n b j:Nat} (hj:j < n) (hn:∃ k,k < n ∧ m k = true) (h:CM m n b = false):Gw m n (By m n) b 0 j = Gw m n (By m n) (b+1) 0 j:=by
 obtain ⟨k,hk,hm⟩:=hn
 have hin:=Zt hj hk hm
 rw [Bool.eq_iff_iff]
 unfold Gw
 simp only [Bool.or_eq_true,decide_eq_true_eq]
 have:By m n j ≠ b:=λhe=>by
  have:=hin.st
  rw [he,h] at this
  cases this
 constructor
 ·rintro (h1 | h1) <;> exact .inl (by omega)
 ·rintro (h1 | h1) <;> exact .inl (by omega)
theorem YF (m:Nat->Bool) (n:Nat):Rank m n (By m n):=by
 have self:∀ {b},b < n->CM m n b = true->By m n b = b:=fun {b} hb h=>by
  have h1:=(ER hb h).1
  have:=(GW hb h h1).seg
  rw [Sa hb] at this
  exact this
 exact ⟨fun {b t j} h=>by rw [h.seg,self h.lb h.st],λhb hc h1 h2 h=>by rw [self hb h1,self hc h2] at h; exact h⟩
theorem Ip {m:Nat->Bool} {n b:Nat} (hb:b < n):CM m n b = m (if b = 0 then n - 1 else b - 1):=by
 unfold CM rnd
 congr 1
 rw [Bu (by omega)]
 split <;> split <;> omega
theorem WJ {m:Nat->Bool} {n b t j:Nat} (h:InSeg m n b t j):Ba m n j = Ba m n b:=by
 have hb:=h.lb
 have ht:=h.lt
 have run:∀ c e,(∀ s,s < e->m (c+s) = false)->Ak m (c+e) = Ak m c:=λc e=>by
  induction e with
  | zero=>intro _; rfl
  | succ e ih=>intro hs; rw [<- Nat.add_assoc,B0 (hs e (by omega)),ih λs hs'=>hs s (by omega)]
 rcases Nat.lt_or_ge (b+t) n with hc | hc
 ·have hj:j = b+t:=by rw [h.eq]; exact Nat.mod_eq_of_lt hc
  have:=run b t λs hs=>by
   have:=h.go s hs
   unfold rnd at this
   rwa [Nat.mod_eq_of_lt (by omega)] at this
  unfold Ba
  rw [hj,this]
 ·have hj:j = b+t - n:=by
   rw [h.eq]; unfold rnd
   rw [Bu (by omega)]
   split <;> omega
  have h1:=run b (n - b) λs hs=>by
   have:=h.go s (by omega)
   unfold rnd at this
   rwa [Nat.mod_eq_of_lt (by omega)] at this
  rw [show b+(n - b) = n by omega] at h1
  have h2:Ak m j = 0:=F8 λi hi=>by
   have:=h.go (i+(n - b)) (by omega)
   unfold rnd at this
   rw [show b+(i+(n - b)) = i+n by omega,Nat.add_mod_right,Nat.mod_eq_of_lt (by omega)] at this
   exact this
  unfold Ba
  rw [h2,<- h1,if_pos rfl]
  split
  ·rfl
  ·rfl
theorem N4 {m:Nat->Bool} {n:Nat}:∀ {b c:Nat},b < c->c < n->CM m n b = true->CM m n c = true->Ba m n b ≠ Ba m n c:=fun {b c} hbc hc h1 h2 he=>by
 rw [Ip (by omega)] at h1 h2
 rw [if_neg (by omega)] at h2
 have e2:=Bk h2
 rw [show c - 1+1 = c by omega] at e2
 have m1:=AX m (show b <= c - 1 by omega)
 have m2:=AX m (show c <= n by omega)
 unfold Ba at he
 by_cases h0:b = 0
 ·rw [if_pos h0] at h1
  have e1:=Bk h1
  rw [show n - 1+1 = n by omega] at e1
  have m3:=AX m (show c <= n - 1 by omega)
  have:Ak m b = 0:=by rw [h0]; rfl
  split at he <;> split at he <;> omega
 ·rw [if_neg h0] at h1
  have e1:=Bk h1
  rw [show b - 1+1 = b by omega] at e1
  split at he <;> split at he <;> omega
theorem Lq (m:Nat->Bool) (n:Nat):Rank m n (Ba m n):=⟨WJ,fun {b c} hb hc h1 h2 h=>by
 rcases Nat.lt_trichotomy b c with h3 | h3 | h3
 ·exact absurd h (N4 h3 hc h1 h2)
 ·exact h3
 ·exact absurd h.symm (N4 h3 hb h2 h1)⟩
theorem Ul {m:Nat->Bool} {n k:Nat} (hk:k < Ak m n):∃ b,b < n ∧ CM m n b = true ∧ Ba m n b = k:=by
 have up:∀ e v,0 < v->v <= Ak m e->∃ b,0 < b ∧ b <= e ∧ Ak m b = v ∧ m (b - 1) = true:=λe=>by
  induction e with
  | zero=>intro v h0 h; simp [Ak] at h; omega
  | succ e ih =>
   intro v h0 h
   by_cases hv:v <= Ak m e
   ·obtain ⟨b,h1,h2,h3⟩:=ih v h0 hv
    exact ⟨b,h1,by omega,h3⟩
   ·cases hm:m e with
    | false=>rw [B0 hm] at h; omega
    | true =>
     rw [Bk hm] at h
     exact ⟨e+1,by omega,Nat.le_refl _,by rw [Bk hm]; omega,by simpa using hm⟩
 have hn:0 < n:=by
  rcases Nat.eq_zero_or_pos n with h | h
  ·subst h; simp [Ak] at hk
  ·exact h
 by_cases h0:k = 0
 ·cases hm:m (n - 1) with
  | true =>
   refine ⟨0,hn,by rw [Ip hn,if_pos rfl]; exact hm,?_⟩
   unfold Ba
   rw [show Ak m 0 = 0 from rfl]
   split <;> omega
  | false =>
   obtain ⟨b,h1,h2,h3,h4⟩:=up n (Ak m n) (by omega) (Nat.le_refl _)
   have hbn:b ≠ n:=λhe=>by rw [he,hm] at h4; cases h4
   refine ⟨b,by omega,by rw [Ip (by omega),if_neg (by omega)]; exact h4,?_⟩
   unfold Ba
   rw [if_pos h3,h0]
 ·obtain ⟨b,h1,h2,h3,h4⟩:=up n k (by omega) (by omega)
  have hbn:b ≠ n:=λhe=>by rw [he] at h3; omega
  refine ⟨b,by omega,by rw [Ip (by omega),if_neg (by omega)]; exact h4,?_⟩
  unfold Ba
  rw [if_neg (by omega),h3]
def stN (m:Nat->Bool) (n k:Nat):Nat:=E4 (λb=>CM m n b && decide (Ba m n b = k)) n
theorem GM {m:Nat->Bool} {n k:Nat} (hk:k < Ak m n):stN m n k < n ∧ CM m n (stN m n k) = true ∧ Ba m n (stN m n k) = k ∧ ∀ i,i < stN m n k->CM m n i = true->Ba m n i ≠ k:=by
 obtain ⟨b,h1,h2,h3⟩:=Ul hk
 obtain ⟨h4,h5,h6⟩:=E3 (p:=λb=>CM m n b && decide (Ba m n b = k)) h1 (by simp [h2,h3])
 simp only [Bool.and_eq_true,decide_eq_true_eq] at h5
 refine ⟨by unfold stN; omega,h5.1,h5.2,λi hi hst he=>?_⟩
 have:=h6 i hi
 simp [hst,he] at this
theorem XY {m:Nat->Bool} {n b:Nat} (hb:b < n) (h:CM m n b = true):stN m n (Ba m n b) = b:=by
 obtain ⟨h4,h5,h6⟩:=E3 (p:=λc=>CM m n c && decide (Ba m n c = Ba m n b)) hb (by simp [h])
 simp only [Bool.and_eq_true,decide_eq_true_eq] at h5
 exact (Lq m n).apart (by unfold stN; omega) hb h5.1 h h5.2
theorem Abu {m:Nat->Bool} {n k:Nat} (hk:k <= n) (h:0 < Ak m n):Ba m n k < Ak m n:=by
 have:=AX m hk
 unfold Ba
 split <;> omega
def Adc (w:Nat->Bool) (n b v:Nat):Nat:=rnd n b (E4 (λt=>w (rnd n b t) && decide (wcN w n b t = v)) n)
theorem UV {w:Nat->Bool} {n b t:Nat} (ht:t < n) (h:w (rnd n b t) = true):Adc w n b (wcN w n b t) = rnd n b t:=by
 unfold Adc
 rw [Ky (k:=t) ht (by simp [h]) λi hi=>?_]
 cases hw:w (rnd n b i) with
 | false=>simp
 | true =>
  have h1:wcN w n b (i+1) = wcN w n b i+1:=Bk (p:=λt=>w (rnd n b t)) hw
  have h2:wcN w n b (i+1) <= wcN w n b t:=AX _ (by omega)
  simp
  omega
section
variable (m w:Nat->Bool) (n:Nat)
def X7 (i:Nat):Nat:=wcN w n (By m n i) (Ih m n i+1)
def rfN (i:Nat):Int:=bif w i then -1 else wlN w n (By m n i) (Ih m n i)
def lnN (k:Nat):Nat:=wcN w n (stN m n k) (Cp m n (stN m n k))
def coN (k j:Nat):Nat:=Adc w n (stN m n k) j
end
theorem T6 {w:Nat->Bool} {n b t:Nat} (h:w (rnd n b t) = true):wcN w n b (t+1) = wcN w n b t+1:=Bk (p:=λt=>w (rnd n b t)) h
theorem T7 {w:Nat->Bool} {n b t:Nat} (h:w (rnd n b t) = false):wcN w n b (t+1) = wcN w n b t:=B0 (p:=λt=>w (rnd n b t)) h
theorem AgI {w:Nat->Bool} {n b t:Nat} (h:w (rnd n b t) = true):wlN w n b (t+1) = ofNat (rnd n b t):=by rw [wlN,h]; rfl
theorem AgJ {w:Nat->Bool} {n b t:Nat} (h:w (rnd n b t) = false):wlN w n b (t+1) = wlN w n b t:=by rw [wlN,h]; rfl
theorem T9 {m w:Nat->Bool} {n b t j:Nat} (h:InSeg m n b t j):X7 m w n j = wcN w n b (t+1):=by
 unfold X7
 rw [h.seg,h.dst]
theorem Y8 {m w:Nat->Bool} {n b t j:Nat} (h:InSeg m n b t j) (hw:w j = false):rfN m w n j = wlN w n b t:=by
 unfold rfN
 rw [h.seg,h.dst,hw]
 rfl
theorem Aka {m w:Nat->Bool} {n j:Nat} (hw:w j = true):rfN m w n j = -1:=by
 unfold rfN
 rw [hw]
 rfl
theorem EB {p q:Nat->Bool}:∀ {n:Nat},(∀ i,i < n->p i = q i)->Ak p n = Ak q n
 | 0,_=>rfl
 | n+1,h=>by
  have ih:=EB (n:=n) λi hi=>h i (by omega)
  have he:=h n (by omega)
  cases hq:q n with
  | true=>rw [Bk hq,Bk (he.trans hq),ih]
  | false=>rw [B0 hq,B0 (he.trans hq),ih]
structure Ev5 where
 th:Int
 pl:Int
 dir:Int
 loc:Int
 val:Int
def evV (e:Ev5):V:=.agg [iV e.th,iV e.pl,iV e.dir,iV e.loc,iV e.val]
section
variable (n:Nat) (g:Nat->E6)
def obF (i:Nat):Bool:=As (g i)
def mbF (i:Nat):Bool:=Ar (g i)
def wrF (i:Nat):Bool:=ieq (g i).src 2
def thF:Nat->Int:=Av (obF g) n
def loF:Nat->Int:=Av (mbF g) n
def loN:Nat->Nat:=Ba (mbF g) n
def kkN:Nat:=Ak (mbF g) n
def plF (i:Nat):Nat:=Ak (λk=>ieq (thF n g i) (thF n g k)) i
def evF (d:Nat->Bool) (i:Nat):Ev5:=bif decide (i < n) then ⟨thF n g i,ofNat (plF n g i),(g i).src,loF n g i,bif d i then ofNat (X7 (mbF g) (wrF g) n i) else 0⟩ else ⟨0,0,0,0,0⟩
def rfF (d:Nat->Bool) (i:Nat):Int:=bif d i then rfN (mbF g) (wrF g) n i else -1
def dnF (r:Nat->Nat) (b t j:Nat):Bool:=decide (j < n) && Gw (mbF g) n r b t j
def lnP (b t k:Nat):Nat:=if k < kkN n g then (if stN (mbF g) n k < b then lnN (mbF g) (wrF g) n k else if stN (mbF g) n k = b then wcN (wrF g) n b t else 0) else 0
def coP (b t k j:Nat):Int:=if j < lnP n g b t k then ofNat (coN (mbF g) (wrF g) n k j) else 0
end
theorem AbM {n:Nat} {g:Nat->E6} {i:Nat} (h:i < n):loF n g i = ofNat (loN n g i):=Fz h
theorem O3 {n:Nat} {g:Nat->E6} {r:Nat->Nat} (hr:Rank (mbF g) n r) {b t:Nat} (hb:b < n) (h:CM (mbF g) n b = true) (ht:t < Cp (mbF g) n b) (j:Nat) :
  dnF n g r (r b) (t+1) j = (decide (j = rnd n b t) || dnF n g r (r b) t j):=by
 unfold dnF
 by_cases hj:j < n
 ·rw [Xh hr hb h ht hj]
  simp [hj]
 ·have:j ≠ rnd n b t:=λhe=>hj (by rw [he]; exact G8 (by omega))
  simp [hj,this]
theorem Wh {n:Nat} {g:Nat->E6} {r:Nat->Nat} (hr:Rank (mbF g) n r) {b:Nat} (hb:b < n) (h:CM (mbF g) n b = true):dnF n g r (r b) (Cp (mbF g) n b) = dnF n g r (r b+1) 0:=by
 funext j
 unfold dnF
 by_cases hj:j < n
 ·rw [ZH hr hb h hj]
 ·simp [hj]
theorem Yh {m:Nat->Bool} {n b:Nat} (hb:b < n) (h:CM m n b = true):By m n b = b:=by
 have h1:=(ER hb h).1
 have:=(GW hb h h1).seg
 rw [Sa hb] at this
 exact this
theorem XX {m:Nat->Bool} {n b k:Nat} (hb:b < n) (h:CM m n b = true) (hk:k < Ak m n):stN m n k = b ↔ k = Ba m n b:=by
 constructor
 ·intro he
  rw [<- he,(GM hk).2.2.1]
 ·intro he
  rw [he,XY hb h]
theorem S4 {n:Nat} {g:Nat->E6} {b:Nat} (hb:b < n) (h:0 < kkN n g):loN n g b < kkN n g:=Abu (Nat.le_of_lt hb) h
theorem I9 {n:Nat} {g:Nat->E6} {b:Nat} (hb:b < n) (h:CM (mbF g) n b = true):0 < kkN n g:=by
 unfold kkN
 have hn:0 < n:=by omega
 rw [Ip hb] at h
 generalize hk:(if b = 0 then n - 1 else b - 1) = k at h
 have hkn:k < n:=by rw [<- hk]; split <;> omega
 have h1:=Bk h
 have h2:=AX (mbF g) (show k+1 <= n by omega)
 omega
theorem AcK {n:Nat} {g:Nat->E6} {b t:Nat} (hb:b < n) (h:CM (mbF g) n b = true) (hw:wrF g (rnd n b t) = true) (k:Nat):lnP n g b (t+1) k = if k = loN n g b then lnP n g b t k+1 else lnP n g b t k:=by
 have hl:=S4 hb (I9 hb h)
 unfold lnP
 by_cases hk:k < kkN n g
 ·have:=XX hb h hk
  rw [if_pos hk,if_pos hk]
  by_cases he:k = loN n g b
  ·have h2:=this.2 he
   rw [if_pos he,if_neg (by omega),if_pos h2,if_neg (by omega),if_pos h2,T6 hw]
  ·have h2:stN (mbF g) n k ≠ b:=λh3=>he (this.1 h3)
   rw [if_neg he,if_neg h2,if_neg h2]
 ·rw [if_neg hk,if_neg hk,if_neg (by omega)]
theorem Zg {n:Nat} {g:Nat->E6} {b t:Nat} (hw:wrF g (rnd n b t) = false):lnP n g b (t+1) = lnP n g b t:=by
 funext k
 unfold lnP
 rw [T7 hw]
theorem Uw {n:Nat} {g:Nat->E6} {b t:Nat} (hb:b < n) (h:CM (mbF g) n b = true):lnP n g b t (loN n g b) = wcN (wrF g) n b t:=by
 have hl:=S4 hb (I9 hb h)
 have h2:=(XX hb h hl).2 rfl
 unfold lnP
 rw [if_pos hl,if_neg (by omega),if_pos h2]
theorem Aju {n:Nat} {g:Nat->E6} {b t:Nat} (hb:b < n) (h:CM (mbF g) n b = true) (ht:t < n) (hw:wrF g (rnd n b t) = true) (k j:Nat) :
  coP n g b (t+1) k j = if k = loN n g b ∧ j = lnP n g b t k then ofNat (rnd n b t) else coP n g b t k j:=by
 have hl:=S4 hb (I9 hb h)
 unfold coP
 rw [AcK hb h hw]
 by_cases hk:k = loN n g b
 ·subst hk
  have h2:=(XX hb h hl).2 rfl
  have h2:stN (mbF g) n (loN n g b) = b:=h2
  rw [if_pos rfl,Uw hb h]
  by_cases hj:j = wcN (wrF g) n b t
  ·rw [if_pos (by omega),if_pos ⟨rfl,hj⟩,hj]
   unfold coN
   rw [h2,UV ht hw]
  ·have h4:¬ (loN n g b = loN n g b ∧ j = wcN (wrF g) n b t):=λh=>hj h.2
   by_cases h3:j < wcN (wrF g) n b t
   ·simp [hj,h3,show j < wcN (wrF g) n b t+1 by omega]
   ·simp [hj,h3,show ¬ j < wcN (wrF g) n b t+1 by omega]
 ·simp only [if_neg hk,if_neg (λh:k = loN n g b ∧ j = lnP n g b t k=>hk h.1)]
theorem AcX {n:Nat} {g:Nat->E6} {b t:Nat} (hw:wrF g (rnd n b t) = false):coP n g b (t+1) = coP n g b t:=by
 funext k j
 unfold coP
 rw [Zg hw]
theorem VB {n:Nat} {g:Nat->E6} {b:Nat}:lnP n g b (Cp (mbF g) n b) = lnP n g (b+1) 0:=by
 funext k
 have h0:wcN (wrF g) n (b+1) 0 = 0:=rfl
 unfold lnP
 split
 ·by_cases h1:stN (mbF g) n k < b
  ·rw [if_pos h1,if_pos (by omega)]
  ·rw [if_neg h1]
   by_cases h2:stN (mbF g) n k = b
   ·rw [if_pos h2,if_pos (by omega)]
    unfold lnN
    rw [h2]
   ·rw [if_neg h2,if_neg (by omega),h0]
    split <;> rfl
 ·rfl
theorem S5 {n:Nat} {g:Nat->E6} {b:Nat} (h:CM (mbF g) n b = false):lnP n g b 0 = lnP n g (b+1) 0:=by
 funext k
 have h0:wcN (wrF g) n (b+1) 0 = 0:=rfl
 have h1:wcN (wrF g) n b 0 = 0:=rfl
 unfold lnP
 rw [h0,h1]
 by_cases hk:k < kkN n g
 ·have h2:=GM hk
  have:stN (mbF g) n k ≠ b:=λhe=>by
   have:=h2.2.1
   rw [he,h] at this
   cases this
  rw [if_pos hk,if_pos hk]
  by_cases h3:stN (mbF g) n k < b
  ·rw [if_pos h3,if_pos (by omega)]
  ·simp only [if_neg h3,if_neg (show ¬ stN (mbF g) n k < b+1 by omega),if_neg this]
   split <;> rfl
 ·rw [if_neg hk,if_neg hk]
theorem ZW {n:Nat} {g:Nat->E6} {b t b' t':Nat} (h:lnP n g b t = lnP n g b' t'):coP n g b t = coP n g b' t':=by
 funext k j
 unfold coP
 rw [h]
theorem AcL (n:Nat) (g:Nat->E6):lnP n g 0 0 = λ_=>0:=by
 funext k
 have h0:wcN (wrF g) n 0 0 = 0:=rfl
 unfold lnP
 rw [h0]
 split
 ·rw [if_neg (by omega)]
  split <;> rfl
 ·rfl
theorem Ajv (n:Nat) (g:Nat->E6):coP n g 0 0 = λ_ _=>0:=by
 funext k j
 unfold coP
 rw [AcL]
 simp
theorem BU {n:Nat} {g:Nat->E6} {d:Nat->Bool} {i:Nat} (h:i < n):evF n g d i = ⟨thF n g i,ofNat (plF n g i),(g i).src,loF n g i,bif d i then ofNat (X7 (mbF g) (wrF g) n i) else 0⟩:=by
 unfold evF
 rw [decide_eq_true h]
 rfl
theorem LF {n:Nat} {g:Nat->E6} {d d':Nat->Bool} {X:Nat} {v:Int} (hXn:X < n) (hd:∀ j,d' j = (decide (j = X) || d j)) (hv:v = ofNat (X7 (mbF g) (wrF g) n X)) :
  (λi=>V.agg [iV (sel (A4 i X) (evF n g d X).th (evF n g d i).th),iV (sel (A4 i X) (evF n g d X).pl (evF n g d i).pl),iV (sel (A4 i X) (evF n g d X).dir (evF n g d i).dir),iV (sel (A4 i X) (evF n g d X).loc (evF n g d i).loc),iV (sel (A4 i X) v (evF n g d i).val)]) = λi=>evV (evF n g d' i):=by
 funext i
 cases hX:A4 i X with
 | true =>
  have:=Nat.eq_of_beq_eq_true hX
  subst this
  unfold evV
  simp only [Yg]
  rw [BU hXn,BU hXn,hd,hv]
  simp
 | false =>
  have hne:i ≠ X:=λhe=>by rw [he] at hX; unfold A4 at hX; rw [Nat.beq_refl] at hX; cases hX
  unfold evV
  simp only [W5]
  have:d' i = d i:=by rw [hd]; simp [hne]
  unfold evF
  rw [this]
theorem Ug {n:Nat} {g:Nat->E6} {d d':Nat->Bool} {X:Nat} {v:Int} (hd:∀ j,d' j = (decide (j = X) || d j)) (hv:v = rfN (mbF g) (wrF g) n X):Bt (λi=>iV (rfF n g d i)) X (iV v) = λi=>iV (rfF n g d' i):=by
 rw [Cn]
 funext i
 unfold MZ rfF
 rw [hd]
 by_cases h:i = X
 ·subst h
  simp [hv]
 ·simp [h]
theorem Qy {n:Nat} {g:Nat->E6} {d d':Nat->Bool} {X:Nat} (hd:∀ j,d' j = (decide (j = X) || d j)) (hw:wrF g X = true):rfF n g d' = rfF n g d:=by
 funext i
 unfold rfF
 rw [hd]
 by_cases h:i = X
 ·subst h
  rw [Aka hw]
  cases d i <;> simp
 ·simp [h]
end Go.Proofs.Ytjhnfomefcngfaa.Sh
namespace Go.Sy
def CLe (c c':FuncId->List V->St->T (V × Res)):Prop:=∀ f vs st,TLe (c f vs st) (c' f vs st)
theorem CLe.refl (c:FuncId->List V->St->T (V × Res)):CLe c c:=λ_ _ _=>TLe.refl _
section
variable {τ:List Ty} {c c':FuncId->List V->St->T (V × Res)} {G:Nat->V}
theorem Oj (st:St) (x:Operand):ev ⟨c,G⟩ st x = ev ⟨c',G⟩ st x:=by cases x <;> rfl
theorem OE (st:St):∀ l:List Operand,args ⟨c,G⟩ st l = args ⟨c',G⟩ st l
 | []=>rfl
 | x :: l=>by
  show ev ⟨c,G⟩ st x :: args ⟨c,G⟩ st l = ev ⟨c',G⟩ st x :: args ⟨c',G⟩ st l
  rw [Oj (c:=c) (c':=c'),OE st l]
theorem QX (st:St):∀ l:List (Nat × Operand),evs ⟨c,G⟩ st l = evs ⟨c',G⟩ st l
 | []=>rfl
 | (i,x) :: l=>by
   show (i,ev ⟨c,G⟩ st x) :: evs ⟨c,G⟩ st l = (i,ev ⟨c',G⟩ st x) :: evs ⟨c',G⟩ st l
   rw [Oj (c:=c) (c':=c'),QX st l]
theorem Pe (h:CLe c c') (o:Oper) (st:St):TLe (FG τ ⟨c,G⟩ o st) (FG τ ⟨c',G⟩ o st):=by
 have e1:=λst x=>Oj (c:=c) (c':=c') (G:=G) st x
 have e2:=λst x=>OE (c:=c) (c':=c') (G:=G) st x
 have e3:=λst x=>QX (c:=c) (c':=c') (G:=G) st x
 unfold FG
 cases ho:o.op with
 | call k =>
  simp only
  cases hk:k.callee with
  | value f =>
   simp only [e1,e2]
   split
   ·exact TLe.bind (h _ _ _) λ_=>TLe.refl _
   ·exact TLe.refl _
  | builtin b =>
   simp only [e2]
   cases b <;> exact TLe.refl _
  | invoke r m=>exact TLe.refl _
 | makeFunc fn first captured =>
  simp only [e1,e2,e3]
  cases fn <;> exact TLe.refl _
 | slice t x lo hi mx =>
  have e4:ev (⟨c,G⟩:Cx0) st = ev ⟨c',G⟩ st:=funext (e1 st)
  simp only [e4]
  cases mx <;> exact TLe.refl _
 | lookup t m x ok =>
  simp only [e1,e2,e3]
  cases ok <;> exact TLe.refl _
 | _ =>
  simp only [e1,e2,e3]
  exact TLe.refl _
theorem XW (h:CLe c c') (o:Oper) (st:St):TLe (step τ ⟨c,G⟩ o st) (step τ ⟨c',G⟩ o st):=by
 have e1:=λst x=>Oj (c:=c) (c':=c') (G:=G) st x
 have e2:=λst x=>OE (c:=c) (c':=c') (G:=G) st x
 have e3:=λst x=>QX (c:=c) (c':=c') (G:=G) st x
 have quiet:TLe (keep st (FG τ ⟨c,G⟩ o st)) (keep st (FG τ ⟨c',G⟩ o st)):=TLe.bind (Pe h o st) λ_=>TLe.refl _
 have e4:ev (⟨c,G⟩:Cx0) st = ev ⟨c',G⟩ st:=funext (e1 st)
 have loud:∀ k:Call,TLe (RM τ ⟨c,G⟩ k st) (RM τ ⟨c',G⟩ k st):=λk=>by
  unfold RM
  cases hk:k.callee with
  | value f =>
   simp only [e1,e2]
   split
   ·exact TLe.bind (h _ _ _) λ_=>TLe.refl _
   ·exact TLe.refl _
  | builtin b =>
   simp only [e2]
   cases b <;> exact TLe.refl _
  | invoke r m=>exact TLe.refl _
 unfold step
 cases ho:o.op with
 | call k =>
  simp only
  split
  ·exact loud k
  ·exact quiet
 | slice t x lo hi mx =>
  simp only [e4]
  cases mx with
  | none =>
   simp only
   split
   ·exact TLe.refl _
   ·exact quiet
  | some m=>exact quiet
 | makeMap t r =>
  cases r with
  | none=>exact TLe.refl _
  | some r=>exact quiet
 | _ =>
  simp only [e1,e3,e4]
  first
   | exact TLe.refl _
   | exact quiet
theorem PE {α:Type} {all:Array Oper} {st:St} {o:Oper} {r r' k:T α} (h:TLe r r'):TLe (IC all st o r k) (IC all st o r' k):=by
 have br:∀ b,TLe (T.br b r k) (T.br b r' k):=λb=>by
  cases b with
  | true=>exact h
  | false=>exact TLe.refl _
 have br':∀ b,TLe (T.br b k r) (T.br b k r'):=λb=>by
  cases b with
  | true=>exact TLe.refl _
  | false=>exact h
 unfold IC
 split
 ·exact h
 ·split
  ·split
   ·split
    ·split
     ·exact br _
     ·exact br' _
    ·exact TLe.refl _
    ·exact TLe.refl _
   ·exact TLe.refl _
  ·exact TLe.refl _
theorem Pr (h:CLe c c') (all:Array Oper) (o:Oper) (st:St):TLe (Nv τ ⟨c,G⟩ all o st) (Nv τ ⟨c',G⟩ all o st) :=
 PE (TLe.bind (XW h o st) λ_=>TLe.refl _)
theorem JM (h:CLe c c') (all:Array Oper):∀ (l:List Oper) (st:St),TLe (Fg τ ⟨c,G⟩ all l st) (Fg τ ⟨c',G⟩ all l st)
 | [],_=>TLe.refl _
 | o :: l,st=>TLe.bind (Pr h all o st) λst=>JM h all l st
theorem JN (h:CLe c c') (all:Array Oper) (o:Oper) (st:St):TLe (Dl τ ⟨c,G⟩ all o st) (Dl τ ⟨c',G⟩ all o st) :=
 PE (Pe h o _)
theorem Hy (h:CLe c c') (all:Array Oper):∀ (l:List Oper) (st:St),TLe (FJ τ ⟨c,G⟩ all l st) (FJ τ ⟨c',G⟩ all l st)
 | [],_=>TLe.refl _
 | o :: l,st=>TLe.bind (JN h all o st) λv=>Hy h all l _
theorem Mh (h:CLe c c') (all:Array Oper):∀ (l:List Nat) (st:St),TLe (Hz τ ⟨c,G⟩ all l st) (Hz τ ⟨c',G⟩ all l st)
 | [],_=>TLe.refl _
 | q :: l,st=>by
  simp only [Hz]
  split
  ·exact TLe.bind (JN h all _ st) λv=>Mh h all l _
  ·exact TLe.refl _
theorem DR (h:CLe c c') (all:Array Oper):∀ (l:List Nat) (st:St),TLe (Dx τ ⟨c,G⟩ all l st) (Dx τ ⟨c',G⟩ all l st)
 | [],_=>TLe.refl _
 | q :: l,st=>by
  simp only [Dx]
  split
  ·split
   ·exact TLe.bind (JN h all _ st) λv=>TLe.bind (TLe.refl _) λ_=>DR h all l st
   ·exact TLe.refl _
  ·exact TLe.refl _
theorem VW (st:St) (x:Operand):ev ⟨c,G⟩ st x = ev ⟨c',G⟩ st x:=by cases x <;> rfl
theorem RV (st:St) (y:Operand):RW ⟨c,G⟩ st y = RW ⟨c',G⟩ st y:=by
 unfold RW
 rw [VW (c:=c) (c':=c')]
theorem W6 (all:Array Oper) (st:St):Mg ⟨c,G⟩ all st = Mg ⟨c',G⟩ all st:=by
 funext q
 unfold Mg
 simp only [RV (c:=c) (c':=c')]
theorem Xb (all:Array Oper) (o:Oper) (st:St):Of ⟨c,G⟩ all o st = Of ⟨c',G⟩ all o st:=by
 funext q
 unfold Of
 simp only [RV (c:=c) (c':=c'),VW (c:=c) (c':=c')]
theorem WK (h:CLe c c') (all:Array Oper) (bf:Array Nat) (lts vs:List Nat) (i:Nat) (st:St):TLe (Sp τ ⟨c,G⟩ all bf lts vs i st) (Sp τ ⟨c',G⟩ all bf lts vs i st):=by
 unfold Sp
 split
 ·split
  ·rw [W6 (c:=c) (c':=c')]
   exact TLe.bind (TLe.refl _) λ_=>TLe.bind (DR h all _ _) λ_=>TLe.bind (DR h all _ _) λ_=>TLe.bind (DR h all _ _) λ_=>TLe.refl _
  ·exact TLe.refl _
 ·exact TLe.refl _
theorem Fy (h:CLe c c') (all:Array Oper) (bf:Array Nat) (lts vs ps sk:List Nat):∀ (l:List Oper) (i:Nat) (st:St),TLe (CT τ ⟨c,G⟩ all bf lts vs ps sk i l st) (CT τ ⟨c',G⟩ all bf lts vs ps sk i l st)
 | [],_,_=>TLe.refl _
 | o :: l,i,st=>by
  simp only [CT]
  split
  ·exact Fy h all bf lts vs ps sk l _ st
  ·split
   ·exact TLe.bind (WK h all bf lts vs i st) λst1=>Fy h all bf lts vs ps sk l _ st1
   ·rw [Xb (c:=c) (c':=c')]
    exact TLe.bind (TLe.refl _) λ_=>TLe.bind (Pr h all o st) λst1=>TLe.bind (DR h all _ st1) λ_=>Fy h all bf lts vs ps sk l _ st1
theorem Zk (h:CLe c c') (ops:Array Oper) (m:Nat) (es ls:List Nat) (st:St):TLe (Dp τ ⟨c,G⟩ ops m es ls st) (Dp τ ⟨c',G⟩ ops m es ls st):=by
 unfold Dp Gp K9
 split
 ·exact TLe.bind (Hy h ops _ st) λst=>TLe.bind (Mh h ops ls st) λst=>TLe.bind (TLe.refl _) λ_=>TLe.bind (DR h ops _ st) λ_=>TLe.bind (Fy h ops _ _ _ _ _ _ _ st) λ_=>TLe.refl _
 ·exact TLe.refl _
theorem LD {L L':Nat->(St->T (Ex × St))->St->T (Ex × St)} (h:CLe c c') (hL:LLe L L') :
  ∀ (k:Code) (id:Nat) (st:St),TLe (AG τ ⟨c,L,G⟩ k id st) (AG τ ⟨c',L',G⟩ k id st):=by
 intro k
 induction k with
 | skip=>intro id st; exact TLe.refl _
 | region i ops draw =>
  intro id st
  simp only [AG]
  split
  ·exact TLe.bind (JM h ops _ st) λ_=>TLe.refl _
  ·split
   ·split
    ·split
     ·exact TLe.bind (Hy h ops _ st) λst=>TLe.bind (JM h ops _ st) λ_=>TLe.refl _
     ·exact TLe.refl _
    ·exact Zk h ops _ _ _ st
   ·exact TLe.refl _
 | seq a b iha ihb =>
  intro id st
  refine TLe.bind (iha id st) λr=>?_
  cases r.1 with
  | nm=>exact ihb id r.2
  | ex j=>exact TLe.refl _
  | rt=>exact TLe.refl _
 | cond x a b iha ihb =>
  intro id st
  have e1:=Oj (c:=c) (c':=c') (G:=G) st x
  show TLe (match ev ⟨c,G⟩ st x with | .val (.bool q)=>T.br q (AG τ ⟨c,L,G⟩ a id st) (AG τ ⟨c,L,G⟩ b id st) | _=>.fail) (match ev ⟨c',G⟩ st x with | .val (.bool q)=>T.br q (AG τ ⟨c',L',G⟩ a id st) (AG τ ⟨c',L',G⟩ b id st) | _=>.fail)
  rw [e1]
  split
  ·rename_i q _
   cases q with
   | true=>exact iha id st
   | false=>exact ihb id st
  ·exact TLe.refl _
 | block i c ih =>
  intro id st
  refine TLe.bind (ih i st) λr=>?_
  cases r.1 with
  | nm=>exact TLe.refl _
  | ex j=>exact TLe.refl _
  | rt=>exact TLe.refl _
 | loop c ih =>
  intro id st
  exact hL id _ _ st (ih id)
 | exit i=>intro id st; exact TLe.refl _
 | ret=>intro id st; exact TLe.refl _
 | _=>intro id st; exact TLe.refl _
theorem LC {fn:Func} {vs:List V} {H:List Blk} {L L':Nat->(St->T (Ex × St))->St->T (Ex × St)} (h:CLe c c') (hL:LLe L L'):TLe (An τ ⟨c,L,G⟩ fn vs H) (An τ ⟨c',L',G⟩ fn vs H):=by
 unfold An
 cases fn.body with
 | none=>exact TLe.refl _
 | some k=>exact TLe.bind (LD h hL k 0 _) λ_=>TLe.refl _
theorem told_leC {fn:Func} {vs:List V} {L L':Nat->(St->T (Ex × St))->St->T (Ex × St)} (h:CLe c c') (hL:LLe L L'):TLe (A2 (An τ ⟨c,L,G⟩ fn vs [])) (A2 (An τ ⟨c',L',G⟩ fn vs [])) :=
 TLe.bind (LC h hL) λ_=>TLe.refl _
end
def onC (k:Nat) (p:List V->St->Bool) (r:V × Res) (c:FuncId->List V->St->T (V × Res)):FuncId->List V->St->T (V × Res) :=
 λf vs st=>match Nat.beq f k with
  | true=>.br (p vs st) (.leaf r) .fail
  | false=>c f vs st
noncomputable def isC (c:FuncId->List V->St->T (V × Res)) (k:Nat) (r:V × Res):List V->St->Bool :=
 λvs st=>@decide ((c k vs st).sem = some r) (Classical.propDecidable _)
theorem SH {c:FuncId->List V->St->T (V × Res)} {k:Nat} {r:V × Res} {vs:List V} {st:St} (h:(c k vs st).sem = some r):isC c k r vs st = true:=by
 unfold isC
 exact @decide_eq_true _ (Classical.propDecidable _) h
theorem YM {c' c:FuncId->List V->St->T (V × Res)} {k:Nat} {r:V × Res} (hc:CLe c' c):CLe (onC k (isC c k r) r c') c:=λf vs st r' hr=>by
 unfold onC at hr
 cases hk:Nat.beq f k with
 | true =>
  rw [hk] at hr
  obtain ⟨h1,h2⟩:=Ag hr
  rw [Ac h2]
  unfold isC at h1
  have h1:=@of_decide_eq_true _ (Classical.propDecidable _) h1
  rw [Nat.eq_of_beq_eq_true hk]
  exact h1
 | false =>
  rw [hk] at hr
  exact hc f vs st _ hr
end Go.Sy
