/-
  Layer 7, plain: a cycle's segments going round, its events' values, what its reads read, its locations' writes in order. No program here, no conditions.
-/
import Derived.Test.YtkgdhhieomndeaaGreatDoorShB
import Derived.Test.YtkgdhhieomndeaaGreatDoorSyU
import Derived.Test.YtkgdhhieomndeaaGreatDoorCyA
namespace Go.Proofs.YtkgdhhieomndeaaGreatDoor.Sh
open Go.Sy Ed
open Int (ofNat)
def Eh (p:Nat->Bool) (n:Nat):Nat:=match (List.range n).find? p with
 | some k=>k
 | none=>n
theorem Kv {p:Nat->Bool} {n k:Nat} (hk:k<n) (h:p k=true) (hb:∀ i,i<k->p i=false):Eh p n=k:=by
 unfold Eh;have:(List.range n).find? p=some k:=by
  rw [List.find?_range_eq_some];exact ⟨h,by simpa using hk,λj hj=>by rw [hb j hj]; rfl⟩
 rw [this]
theorem DN {p:Nat->Bool} {n k:Nat} (hk:k<n) (h:p k=true):Eh p n <= k∧p (Eh p n)=true∧∀ i,i<Eh p n->p i=false:=by
 unfold Eh;cases hf:(List.range n).find? p with
 | none =>rw [List.find?_eq_none] at hf;exact absurd h (hf k (by simpa using hk))
 | some z =>rw [List.find?_range_eq_some] at hf;obtain ⟨h1,_,h3⟩:=hf;refine ⟨?_,h1,λi hi=>by simpa using h3 i hi⟩;apply Nat.le_of_not_lt;intro hc;have:=h3 k hc;rw [h] at this;cases this
theorem GQ {p:Nat->Bool} {n:Nat} (h:∀ i,i<n->p i=false):Eh p n=n:=by
 unfold Eh;have:(List.range n).find? p=none:=by
  rw [List.find?_eq_none];intro k hk;rw [h k (by simpa using hk)];simp
 rw [this]
theorem lstN_le (p:Nat->Bool) (n:Nat):Eh p n <= n:=by
 by_cases h:∃ i,i<n∧p i=true
 ·obtain ⟨i,h1,h2⟩:=h
  have:=(DN h1 h2).1;omega
 ·rw [GQ λi hi=>by
   cases hp:p i with
   | false=>rfl
   | true=>exact absurd ⟨i,hi,hp⟩ h]
  exact Nat.le_refl _
section
variable (m w:Nat->Bool) (n:Nat)
def rnd (i t:Nat):Nat:=(i+t) % n
def CQ (i:Nat):Bool:=m (rnd n i (n-1))
def H6 (i:Nat):Nat:=Eh (λd=>m (rnd n i (n-1-d))) n
def B8 (i:Nat):Nat:=rnd n i (n-H6 m n i)
def Ck (i:Nat):Nat:=Eh (λt=>m (rnd n i t)) n+1
def wcN (i:Nat):Nat->Nat:=An λt=>w (rnd n i t)
def wlN (i:Nat):Nat->Int
 | 0=>-1
 | t+1=>bif w (rnd n i t) then ofNat (rnd n i t) else wlN i t
end
theorem G0 {n i t:Nat} (h:0<n):rnd n i t<n:=Nat.mod_lt _ h
theorem Gb (n i s t:Nat):rnd n (rnd n i s) t=rnd n i (s+t):=by
 unfold rnd;rw [Nat.mod_add_mod,Nat.add_assoc]
theorem Tb (n i t:Nat):rnd n i (t+n)=rnd n i t:=by
 unfold rnd;rw [<- Nat.add_assoc,Nat.add_mod_right]
theorem Tc {n i:Nat} (h:i<n):rnd n i 0=i:=Nat.mod_eq_of_lt h
theorem AdX {n i s t:Nat} (hi:i<n) (hs:s<n) (ht:t<n) (h:rnd n i s=rnd n i t):s=t:=by
 unfold rnd at h;rw [B2 (a:=i+s) (by omega),B2 (a:=i+t) (by omega)] at h;split at h <;> split at h <;> omega
structure InSeg (m:Nat->Bool) (n b t j:Nat):Prop where
 lb:b<n
 lt:t<n
 st:CQ m n b=true
 go:∀ s,s<t->m (rnd n b s)=false
 eq:j=rnd n b t
theorem InSeg.dst {m:Nat->Bool} {n b t j:Nat} (h:InSeg m n b t j):H6 m n j=t:=by
 have hb:=h.lb;have ht:=h.lt;refine Kv h.lt ?_ λd hd=>?_
 ·show m (rnd n j (n-1-t))=true
  rw [h.eq,Gb,show t+(n-1-t)=n-1 by omega];exact h.st
 ·show m (rnd n j (n-1-d))=false
  rw [h.eq,Gb,show t+(n-1-d)=(t-1-d)+n by omega,Tb];exact h.go _ (by omega)
theorem InSeg.seg {m:Nat->Bool} {n b t j:Nat} (h:InSeg m n b t j):B8 m n j=b:=by
 have hb:=h.lb;have ht:=h.lt;unfold B8;rw [h.dst,h.eq,Gb,show t+(n-t)=0+n by omega,Tb,Tc hb]
theorem AbF {m:Nat->Bool} {n i k:Nat} (hi:i<n) (hk:k<n) (hm:m k=true):InSeg m n (B8 m n i) (H6 m n i) i:=by
 have h1:∃ d,d<n∧m (rnd n i (n-1-d))=true:=by
  refine ⟨rnd n i (n-1-k),G0 (by omega),?_⟩;have:rnd n i (n-1-rnd n i (n-1-k))=k:=by
   unfold rnd;rw [B2 (a:=i+(n-1-k)) (by omega)];split <;> (rw [B2 (by omega)]; split <;> omega)
  rw [this]; exact hm
 obtain ⟨d,hd,hmd⟩:=h1;obtain ⟨h2,h3,h4⟩:=DN (p:=λd=>m (rnd n i (n-1-d))) hd hmd;have ht:H6 m n i<n:=by unfold H6; omega
 refine ⟨G0 (by omega),ht,?_,λs hs=>?_,?_⟩
 ·unfold CQ B8
  rw [Gb,show n-H6 m n i+(n-1)=(n-1-H6 m n i)+n by omega,Tb];exact h3
 ·unfold B8
  rw [Gb];have:=h4 (H6 m n i-1-s) (by unfold H6 at *; omega);rw [show n-1-(H6 m n i-1-s)=n-H6 m n i+s by omega] at this;exact this
 ·unfold B8
  rw [Gb,show n-H6 m n i+H6 m n i=0+n by omega,Tb,Tc hi]
theorem DY {m:Nat->Bool} {n b:Nat} (hb:b<n) (h:CQ m n b=true):0<Ck m n b∧Ck m n b <= n∧m (rnd n b (Ck m n b-1))=true∧∀ s,s+1<Ck m n b->m (rnd n b s)=false:=by
 obtain ⟨h2,h3,h4⟩:=DN (p:=λt=>m (rnd n b t)) (n:=n) (k:=n-1) (by omega) h;unfold Ck;refine ⟨by omega,by omega,by simpa using h3,λs hs=>h4 s (by omega)⟩
theorem InSeg.lt_len {m:Nat->Bool} {n b t j:Nat} (h:InSeg m n b t j):t<Ck m n b:=by
 obtain ⟨h1,h2,h3,h4⟩:=DY h.lb h.st;apply Nat.lt_of_not_le;intro hc;have:=h.go (Ck m n b-1) (by omega);rw [h3] at this;cases this
theorem GT {m:Nat->Bool} {n b t:Nat} (hb:b<n) (h:CQ m n b=true) (ht:t<Ck m n b):InSeg m n b t (rnd n b t):=by
 obtain ⟨h1,h2,h3,h4⟩:=DY hb h;exact ⟨hb,by omega,h,λs hs=>h4 s (by omega),rfl⟩
def Gr (m:Nat->Bool) (n:Nat) (r:Nat->Nat) (b t j:Nat):Bool:=decide (r j<b) || decide (r j=b∧H6 m n j<t)
structure Rank (m:Nat->Bool) (n:Nat) (r:Nat->Nat):Prop where
 same:∀ {b t j},InSeg m n b t j->r j=r b
 apart:∀ {b c},b<n->c<n->CQ m n b=true->CQ m n c=true->r b=r c->b=c
theorem Zb {m:Nat->Bool} {n:Nat} {r:Nat->Nat} (hr:Rank m n r) {b t:Nat} (hb:b<n) (h:CQ m n b=true) (ht:t<Ck m n b) {j:Nat} (hj:j<n) :
  Gr m n r (r b) (t+1) j=(decide (j=rnd n b t) || Gr m n r (r b) t j):=by
 have hin:=AbF (m:=m) hj (G0 (t:=n-1) (i:=b) (by omega)) h;have hi2:=GT hb h ht;have e1:=hr.same hin;have e2:=hr.same hi2;rw [Bool.eq_iff_iff];unfold Gr;simp only [Bool.or_eq_true,decide_eq_true_eq];constructor
 ·rintro (h1 | ⟨h1,h2⟩)
  ·exact .inr (.inl h1)
  ·by_cases h3:H6 m n j<t
   ·exact .inr (.inr ⟨h1,h3⟩)
   ·left
    have h4:H6 m n j=t:=by omega
    have h5:=hr.apart hin.lb hb hin.st h (by rw [<- e1,h1]);rw [hin.eq,h4,h5]
 ·rintro (h1 | h1 | ⟨h1,h2⟩)
  ·right
   rw [h1,e2,hi2.dst];exact ⟨rfl,by omega⟩
  ·exact .inl h1
  ·exact .inr ⟨h1,by omega⟩
theorem Acw {m:Nat->Bool} {n:Nat} {r:Nat->Nat} (hr:Rank m n r) {b:Nat} (hb:b<n) (h:CQ m n b=true) {j:Nat} (hj:j<n) :
  Gr m n r (r b) (Ck m n b) j=Gr m n r (r b+1) 0 j:=by
 have hin:=AbF (m:=m) hj (G0 (t:=n-1) (i:=b) (by omega)) h;have e1:=hr.same hin;rw [Bool.eq_iff_iff];unfold Gr;simp only [Bool.or_eq_true,decide_eq_true_eq];constructor
 ·rintro (h1 | ⟨h1,h2⟩) <;> exact .inl (by omega)
 ·rintro (h1 | ⟨h1,h2⟩)
  ·by_cases h3:r j=r b
   ·right
    have h5:=hr.apart hin.lb hb hin.st h (by rw [<- e1,h3]);have:=hin.lt_len;rw [h5] at this;exact ⟨h3,this⟩
   ·left; omega
  ·omega
theorem Uk {m:Nat->Bool} {n:Nat} {r:Nat->Nat} {b j:Nat} (h:r j<b):Gr m n r b 0 j=true:=by
 unfold Gr;simp [h]
theorem Acx {m:Nat->Bool} {n:Nat} {r:Nat->Nat} {j:Nat}:Gr m n r 0 0 j=false:=by
 unfold Gr;simp
theorem Za {m:Nat->Bool} {n b j:Nat} (hj:j<n) (hn:∃ k,k<n∧m k=true) (h:CQ m n b=false):Gr m n (B8 m n) b 0 j=Gr m n (B8 m n) (b+1) 0 j:=by
 obtain ⟨k,hk,hm⟩:=hn;have hin:=AbF hj hk hm;rw [Bool.eq_iff_iff];unfold Gr;simp only [Bool.or_eq_true,decide_eq_true_eq];have:B8 m n j ≠ b:=λhe=>by
  have:=hin.st;rw [he,h] at this;cases this
 constructor
 ·rintro (h1 | h1) <;> exact .inl (by omega)
 ·rintro (h1 | h1) <;> exact .inl (by omega)
theorem AaI (m:Nat->Bool) (n:Nat):Rank m n (B8 m n):=by
 have self:∀ {b},b<n->CQ m n b=true->B8 m n b=b:=fun {b} hb h=>by
  have h1:=(DY hb h).1;have:=(GT hb h h1).seg;rw [Tc hb] at this;exact this
 exact ⟨fun {b t j} h=>by rw [h.seg,self h.lb h.st],λhb hc h1 h2 h=>by rw [self hb h1,self hc h2] at h; exact h⟩
theorem HT {m:Nat->Bool} {n b:Nat} (hb:b<n):CQ m n b=m (if b=0 then n-1 else b-1):=by
 unfold CQ rnd;congr 1;rw [B2 (by omega)];split <;> split <;> omega
theorem Y5 {m:Nat->Bool} {n b t j:Nat} (h:InSeg m n b t j):AX m n j=AX m n b:=by
 have hb:=h.lb;have ht:=h.lt;have run:∀ c e,(∀ s,s<e->m (c+s)=false)->An m (c+e)=An m c:=λc e=>by
  induction e with
  | zero=>intro _; rfl
  | succ e ih=>intro hs; rw [<- Nat.add_assoc,BU (hs e (by omega)),ih λs hs'=>hs s (by omega)]
 rcases Nat.lt_or_ge (b+t) n with hc | hc
 ·have hj:j=b+t:=by rw [h.eq]; exact Nat.mod_eq_of_lt hc
  have:=run b t λs hs=>by
   have:=h.go s hs;unfold rnd at this;rwa [Nat.mod_eq_of_lt (by omega)] at this
  unfold AX;rw [hj,this]
 ·have hj:j=b+t-n:=by
   rw [h.eq]; unfold rnd;rw [B2 (by omega)];split <;> omega
  have h1:=run b (n-b) λs hs=>by
   have:=h.go s (by omega);unfold rnd at this;rwa [Nat.mod_eq_of_lt (by omega)] at this
  rw [show b+(n-b)=n by omega] at h1;have h2:An m j=0:=GX λi hi=>by
   have:=h.go (i+(n-b)) (by omega);unfold rnd at this;rw [show b+(i+(n-b))=i+n by omega,Nat.add_mod_right,Nat.mod_eq_of_lt (by omega)] at this;exact this
  unfold AX;rw [h2,<- h1,if_pos rfl];split
  ·rfl
  ·rfl
theorem NT {m:Nat->Bool} {n:Nat}:∀ {b c:Nat},b<c->c<n->CQ m n b=true->CQ m n c=true->AX m n b ≠ AX m n c:=fun {b c} hbc hc h1 h2 he=>by
 rw [HT (by omega)] at h1 h2;rw [if_neg (by omega)] at h2;have e2:=Bx h2;rw [show c-1+1=c by omega] at e2;have m1:=Bb m (show b <= c-1 by omega);have m2:=Bb m (show c <= n by omega);unfold AX at he;by_cases h0:b=0
 ·rw [if_pos h0] at h1
  have e1:=Bx h1;rw [show n-1+1=n by omega] at e1;have m3:=Bb m (show c <= n-1 by omega);have:An m b=0:=by rw [h0]; rfl
  split at he <;> split at he <;> omega
 ·rw [if_neg h0] at h1
  have e1:=Bx h1;rw [show b-1+1=b by omega] at e1;split at he <;> split at he <;> omega
theorem LB (m:Nat->Bool) (n:Nat):Rank m n (AX m n):=⟨Y5,fun {b c} hb hc h1 h2 h=>by
 rcases Nat.lt_trichotomy b c with h3 | h3 | h3
 ·exact absurd h (NT h3 hc h1 h2)
 ·exact h3
 ·exact absurd h.symm (NT h3 hb h2 h1)⟩
theorem Vy {m:Nat->Bool} {n k:Nat} (hk:k<An m n):∃ b,b<n∧CQ m n b=true∧AX m n b=k:=by
 have up:∀ e v,0<v->v <= An m e->∃ b,0<b∧b <= e∧An m b=v∧m (b-1)=true:=λe=>by
  induction e with
  | zero=>intro v h0 h; simp [An] at h; omega
  | succ e ih =>
   intro v h0 h;by_cases hv:v <= An m e
   ·obtain ⟨b,h1,h2,h3⟩:=ih v h0 hv
    exact ⟨b,h1,by omega,h3⟩
   ·cases hm:m e with
    | false=>rw [BU hm] at h; omega
    | true =>rw [Bx hm] at h;exact ⟨e+1,by omega,Nat.le_refl _,by rw [Bx hm]; omega,by simpa using hm⟩
 have hn:0<n:=by
  rcases Nat.eq_zero_or_pos n with h | h
  ·subst h; simp [An] at hk
  ·exact h
 by_cases h0:k=0
 ·cases hm:m (n-1) with
  | true =>refine ⟨0,hn,by rw [HT hn,if_pos rfl]; exact hm,?_⟩;unfold AX;rw [show An m 0=0 from rfl];split <;> omega
  | false =>
   obtain ⟨b,h1,h2,h3,h4⟩:=up n (An m n) (by omega) (Nat.le_refl _);have hbn:b ≠ n:=λhe=>by rw [he,hm] at h4; cases h4
   refine ⟨b,by omega,by rw [HT (by omega),if_neg (by omega)]; exact h4,?_⟩;unfold AX;rw [if_pos h3,h0]
 ·obtain ⟨b,h1,h2,h3,h4⟩:=up n k (by omega) (by omega)
  have hbn:b ≠ n:=λhe=>by rw [he] at h3; omega
  refine ⟨b,by omega,by rw [HT (by omega),if_neg (by omega)]; exact h4,?_⟩;unfold AX;rw [if_neg (by omega),h3]
def stN (m:Nat->Bool) (n k:Nat):Nat:=Eh (λb=>CQ m n b && decide (AX m n b=k)) n
theorem GJ {m:Nat->Bool} {n k:Nat} (hk:k<An m n):stN m n k<n∧CQ m n (stN m n k)=true∧AX m n (stN m n k)=k∧∀ i,i<stN m n k->CQ m n i=true->AX m n i ≠ k:=by
 obtain ⟨b,h1,h2,h3⟩:=Vy hk;obtain ⟨h4,h5,h6⟩:=DN (p:=λb=>CQ m n b && decide (AX m n b=k)) h1 (by simp [h2,h3]);simp only [Bool.and_eq_true,decide_eq_true_eq] at h5;refine ⟨by unfold stN; omega,h5.1,h5.2,λi hi hst he=>?_⟩;have:=h6 i hi;simp [hst,he] at this
theorem Aad {m:Nat->Bool} {n b:Nat} (hb:b<n) (h:CQ m n b=true):stN m n (AX m n b)=b:=by
 obtain ⟨h4,h5,h6⟩:=DN (p:=λc=>CQ m n c && decide (AX m n c=AX m n b)) hb (by simp [h]);simp only [Bool.and_eq_true,decide_eq_true_eq] at h5;exact (LB m n).apart (by unfold stN; omega) hb h5.1 h h5.2
theorem part_lt {m:Nat->Bool} {n k:Nat} (hk:k <= n) (h:0<An m n):AX m n k<An m n:=by
 have:=Bb m hk;unfold AX;split <;> omega
def AgS (w:Nat->Bool) (n b v:Nat):Nat:=rnd n b (Eh (λt=>w (rnd n b t) && decide (wcN w n b t=v)) n)
theorem W8 {w:Nat->Bool} {n b t:Nat} (ht:t<n) (h:w (rnd n b t)=true):AgS w n b (wcN w n b t)=rnd n b t:=by
 unfold AgS;rw [Kv (k:=t) ht (by simp [h]) λi hi=>?_];cases hw:w (rnd n b i) with
 | false=>simp
 | true =>have h1:wcN w n b (i+1)=wcN w n b i+1:=Bx (p:=λt=>w (rnd n b t)) hw;have h2:wcN w n b (i+1) <= wcN w n b t:=Bb _ (by omega);simp;omega
section
variable (m w:Nat->Bool) (n:Nat)
def QJ (i:Nat):Nat:=wcN w n (B8 m n i) (H6 m n i+1)
def rfN (i:Nat):Int:=bif w i then -1 else wlN w n (B8 m n i) (H6 m n i)
def lnN (k:Nat):Nat:=wcN w n (stN m n k) (Ck m n (stN m n k))
def coN (k j:Nat):Nat:=AgS w n (stN m n k) j
end
theorem U5 {w:Nat->Bool} {n b t:Nat} (h:w (rnd n b t)=true):wcN w n b (t+1)=wcN w n b t+1:=Bx (p:=λt=>w (rnd n b t)) h
theorem U6 {w:Nat->Bool} {n b t:Nat} (h:w (rnd n b t)=false):wcN w n b (t+1)=wcN w n b t:=BU (p:=λt=>w (rnd n b t)) h
theorem AjT {w:Nat->Bool} {n b t:Nat} (h:w (rnd n b t)=true):wlN w n b (t+1)=ofNat (rnd n b t):=by rw [wlN,h]; rfl
theorem AjU {w:Nat->Bool} {n b t:Nat} (h:w (rnd n b t)=false):wlN w n b (t+1)=wlN w n b t:=by rw [wlN,h]; rfl
theorem U8 {m w:Nat->Bool} {n b t j:Nat} (h:InSeg m n b t j):QJ m w n j=wcN w n b (t+1):=by
 unfold QJ;rw [h.seg,h.dst]
theorem AaA {m w:Nat->Bool} {n b t j:Nat} (h:InSeg m n b t j) (hw:w j=false):rfN m w n j=wlN w n b t:=by
 unfold rfN;rw [h.seg,h.dst,hw];rfl
theorem AnL {m w:Nat->Bool} {n j:Nat} (hw:w j=true):rfN m w n j = -1:=by
 unfold rfN;rw [hw];rfl
theorem InSeg.next {m:Nat->Bool} {n b t j:Nat} (h:InSeg m n b t j) (hm:m j=false):InSeg m n b (t+1) (rnd n j 1):=by
 have hl:=h.lt_len;obtain ⟨h1,h2,h3,h4⟩:=DY h.lb h.st;have ht:t+1 ≠ Ck m n b:=λhe=>by
  rw [show Ck m n b-1=t by omega,<- h.eq,hm] at h3;cases h3
 exact ⟨h.lb,by omega,h.st,λs hs=>h4 s (by omega),by rw [h.eq,Gb]⟩
theorem GW {p q:Nat->Bool}:∀ {n:Nat},(∀ i,i<n->p i=q i)->An p n=An q n
 | 0,_=>rfl
 | n+1,h=>by
  have ih:=GW (n:=n) λi hi=>h i (by omega);have he:=h n (by omega);cases hq:q n with
  | true=>rw [Bx hq,Bx (he.trans hq),ih]
  | false=>rw [BU hq,BU (he.trans hq),ih]
structure Ev5 where
 th:Int
 pl:Int
 dir:Int
 loc:Int
 val:Int
def evV (e:Ev5):V:=.agg [iV e.th,iV e.pl,iV e.dir,iV e.loc,iV e.val]
section
variable (n:Nat) (g:Nat->E6)
def obF (i:Nat):Bool:=AK (g i)
def mbF (i:Nat):Bool:=AJ (g i)
def wrF (i:Nat):Bool:=ieq (g i).src 2
def thF:Nat->Int:=AG (obF g) n
def loF:Nat->Int:=AG (mbF g) n
def loN:Nat->Nat:=AX (mbF g) n
def kkN:Nat:=An (mbF g) n
def plF (i:Nat):Nat:=An (λk=>ieq (thF n g i) (thF n g k)) i
def evF (d:Nat->Bool) (i:Nat):Ev5:=bif decide (i<n) then ⟨thF n g i,ofNat (plF n g i),(g i).src,loF n g i,bif d i then ofNat (QJ (mbF g) (wrF g) n i) else 0⟩ else ⟨0,0,0,0,0⟩
def rfF (d:Nat->Bool) (i:Nat):Int:=bif d i then rfN (mbF g) (wrF g) n i else -1
def dnF (r:Nat->Nat) (b t j:Nat):Bool:=decide (j<n) && Gr (mbF g) n r b t j
def lnP (b t k:Nat):Nat:=if k<kkN n g then (if stN (mbF g) n k<b then lnN (mbF g) (wrF g) n k else if stN (mbF g) n k=b then wcN (wrF g) n b t else 0) else 0
def coP (b t k j:Nat):Int:=if j<lnP n g b t k then ofNat (coN (mbF g) (wrF g) n k j) else 0
end
theorem AeP {n:Nat} {g:Nat->E6} {i:Nat} (h:i<n):loF n g i=ofNat (loN n g i):=Fn h
theorem OP {n:Nat} {g:Nat->E6} {r:Nat->Nat} (hr:Rank (mbF g) n r) {b t:Nat} (hb:b<n) (h:CQ (mbF g) n b=true) (ht:t<Ck (mbF g) n b) (j:Nat) :
  dnF n g r (r b) (t+1) j=(decide (j=rnd n b t) || dnF n g r (r b) t j):=by
 unfold dnF;by_cases hj:j<n
 ·rw [Zb hr hb h ht hj]
  simp [hj]
 ·have:j ≠ rnd n b t:=λhe=>hj (by rw [he]; exact G0 (by omega))
  simp [hj,this]
theorem XL {n:Nat} {g:Nat->E6} {r:Nat->Nat} (hr:Rank (mbF g) n r) {b:Nat} (hb:b<n) (h:CQ (mbF g) n b=true):dnF n g r (r b) (Ck (mbF g) n b)=dnF n g r (r b+1) 0:=by
 funext j;unfold dnF;by_cases hj:j<n
 ·rw [Acw hr hb h hj]
 ·simp [hj]
theorem Aaj {m:Nat->Bool} {n b:Nat} (hb:b<n) (h:CQ m n b=true):B8 m n b=b:=by
 have h1:=(DY hb h).1;have:=(GT hb h h1).seg;rw [Tc hb] at this;exact this
theorem Aac {m:Nat->Bool} {n b k:Nat} (hb:b<n) (h:CQ m n b=true) (hk:k<An m n):stN m n k=b↔k=AX m n b:=by
 constructor
 ·intro he
  rw [<- he,(GJ hk).2.2.1]
 ·intro he
  rw [he,Aad hb h]
theorem T0 {n:Nat} {g:Nat->E6} {b:Nat} (hb:b<n) (h:0<kkN n g):loN n g b<kkN n g:=part_lt (Nat.le_of_lt hb) h
theorem Im {n:Nat} {g:Nat->E6} {b:Nat} (hb:b<n) (h:CQ (mbF g) n b=true):0<kkN n g:=by
 unfold kkN;have hn:0<n:=by omega
 rw [HT hb] at h;generalize hk:(if b=0 then n-1 else b-1)=k at h
 have hkn:k<n:=by rw [<- hk]; split <;> omega
 have h1:=Bx h;have h2:=Bb (mbF g) (show k+1 <= n by omega);omega
theorem Agt {n:Nat} {g:Nat->E6} {b t:Nat} (hb:b<n) (h:CQ (mbF g) n b=true) (hw:wrF g (rnd n b t)=true) (k:Nat):lnP n g b (t+1) k=if k=loN n g b then lnP n g b t k+1 else lnP n g b t k:=by
 have hl:=T0 hb (Im hb h);unfold lnP;by_cases hk:k<kkN n g
 ·have:=Aac hb h hk
  rw [if_pos hk,if_pos hk];by_cases he:k=loN n g b
  ·have h2:=this.2 he
   rw [if_pos he,if_neg (by omega),if_pos h2,if_neg (by omega),if_pos h2,U5 hw]
  ·have h2:stN (mbF g) n k ≠ b:=λh3=>he (this.1 h3)
   rw [if_neg he,if_neg h2,if_neg h2]
 ·rw [if_neg hk,if_neg hk,if_neg (by omega)]
theorem Abz {n:Nat} {g:Nat->E6} {b t:Nat} (hw:wrF g (rnd n b t)=false):lnP n g b (t+1)=lnP n g b t:=by
 funext k;unfold lnP;rw [U6 hw]
theorem VF {n:Nat} {g:Nat->E6} {b t:Nat} (hb:b<n) (h:CQ (mbF g) n b=true):lnP n g b t (loN n g b)=wcN (wrF g) n b t:=by
 have hl:=T0 hb (Im hb h);have h2:=(Aac hb h hl).2 rfl;unfold lnP;rw [if_pos hl,if_neg (by omega),if_pos h2]
theorem AmY {n:Nat} {g:Nat->E6} {b t:Nat} (hb:b<n) (h:CQ (mbF g) n b=true) (ht:t<n) (hw:wrF g (rnd n b t)=true) (k j:Nat) :
  coP n g b (t+1) k j=if k=loN n g b∧j=lnP n g b t k then ofNat (rnd n b t) else coP n g b t k j:=by
 have hl:=T0 hb (Im hb h);unfold coP;rw [Agt hb h hw];by_cases hk:k=loN n g b
 ·subst hk
  have h2:=(Aac hb h hl).2 rfl;have h2:stN (mbF g) n (loN n g b)=b:=h2;rw [if_pos rfl,VF hb h];by_cases hj:j=wcN (wrF g) n b t
  ·rw [if_pos (by omega),if_pos ⟨rfl,hj⟩,hj]
   unfold coN;rw [h2,W8 ht hw]
  ·have h4:¬ (loN n g b=loN n g b∧j=wcN (wrF g) n b t):=λh=>hj h.2
   by_cases h3:j<wcN (wrF g) n b t
   ·simp [hj,h3,show j<wcN (wrF g) n b t+1 by omega]
   ·simp [hj,h3,show ¬ j<wcN (wrF g) n b t+1 by omega]
 ·simp only [if_neg hk,if_neg (λh:k=loN n g b∧j=lnP n g b t k=>hk h.1)]
theorem AgE {n:Nat} {g:Nat->E6} {b t:Nat} (hw:wrF g (rnd n b t)=false):coP n g b (t+1)=coP n g b t:=by
 funext k j;unfold coP;rw [Abz hw]
theorem Xl {n:Nat} {g:Nat->E6} {b:Nat}:lnP n g b (Ck (mbF g) n b)=lnP n g (b+1) 0:=by
 funext k;have h0:wcN (wrF g) n (b+1) 0=0:=rfl;unfold lnP;split
 ·by_cases h1:stN (mbF g) n k<b
  ·rw [if_pos h1,if_pos (by omega)]
  ·rw [if_neg h1]
   by_cases h2:stN (mbF g) n k=b
   ·rw [if_pos h2,if_pos (by omega)]
    unfold lnN;rw [h2]
   ·rw [if_neg h2,if_neg (by omega),h0]
    split <;> rfl
 ·rfl
theorem T1 {n:Nat} {g:Nat->E6} {b:Nat} (h:CQ (mbF g) n b=false):lnP n g b 0=lnP n g (b+1) 0:=by
 funext k;have h0:wcN (wrF g) n (b+1) 0=0:=rfl;have h1:wcN (wrF g) n b 0=0:=rfl;unfold lnP;rw [h0,h1];by_cases hk:k<kkN n g
 ·have h2:=GJ hk
  have:stN (mbF g) n k ≠ b:=λhe=>by
   have:=h2.2.1;rw [he,h] at this;cases this
  rw [if_pos hk,if_pos hk];by_cases h3:stN (mbF g) n k<b
  ·rw [if_pos h3,if_pos (by omega)]
  ·simp only [if_neg h3,if_neg (show ¬ stN (mbF g) n k<b+1 by omega),if_neg this]
   split <;> rfl
 ·rw [if_neg hk,if_neg hk]
theorem AcD {n:Nat} {g:Nat->E6} {b t b' t':Nat} (h:lnP n g b t=lnP n g b' t'):coP n g b t=coP n g b' t':=by
 funext k j;unfold coP;rw [h]
theorem Agu (n:Nat) (g:Nat->E6):lnP n g 0 0=λ_=>0:=by
 funext k;have h0:wcN (wrF g) n 0 0=0:=rfl;unfold lnP;rw [h0];split
 ·rw [if_neg (by omega)]
  split <;> rfl
 ·rfl
theorem AmZ (n:Nat) (g:Nat->E6):coP n g 0 0=λ_ _=>0:=by
 funext k j;unfold coP;rw [Agu];simp
theorem Cg {n:Nat} {g:Nat->E6} {d:Nat->Bool} {i:Nat} (h:i<n):evF n g d i=⟨thF n g i,ofNat (plF n g i),(g i).src,loF n g i,bif d i then ofNat (QJ (mbF g) (wrF g) n i) else 0⟩:=by
 unfold evF;rw [decide_eq_true h];rfl
theorem LX {n:Nat} {g:Nat->E6} {d d':Nat->Bool} {X:Nat} {v:Int} (hXn:X<n) (hd:∀ j,d' j=(decide (j=X) || d j)) (hv:v=ofNat (QJ (mbF g) (wrF g) n X)) :
  (λi=>V.agg [iV (sel (AE i X) (evF n g d X).th (evF n g d i).th),iV (sel (AE i X) (evF n g d X).pl (evF n g d i).pl),iV (sel (AE i X) (evF n g d X).dir (evF n g d i).dir),iV (sel (AE i X) (evF n g d X).loc (evF n g d i).loc),iV (sel (AE i X) v (evF n g d i).val)])=λi=>evV (evF n g d' i):=by
 funext i;cases hX:AE i X with
 | true =>have:=Nat.eq_of_beq_eq_true hX;subst this;unfold evV;simp only [Aai];rw [Cg hXn,Cg hXn,hd,hv];simp
 | false =>
  have hne:i ≠ X:=λhe=>by rw [he] at hX; unfold AE at hX; rw [Nat.beq_refl] at hX; cases hX
  unfold evV;simp only [Yr];have:d' i=d i:=by rw [hd]; simp [hne]
  unfold evF;rw [this]
theorem ev_same {n:Nat} {g:Nat->E6} {d d':Nat->Bool} (h:d=d'):evF n g d=evF n g d':=by rw [h]
theorem Vq {n:Nat} {g:Nat->E6} {d d':Nat->Bool} {X:Nat} {v:Int} (hd:∀ j,d' j=(decide (j=X) || d j)) (hv:v=rfN (mbF g) (wrF g) n X):BT (λi=>iV (rfF n g d i)) X (iV v)=λi=>iV (rfF n g d' i):=by
 rw [Cn];funext i;unfold HI rfF;rw [hd];by_cases h:i=X
 ·subst h
  simp [hv]
 ·simp [h]
theorem Ri {n:Nat} {g:Nat->E6} {d d':Nat->Bool} {X:Nat} (hd:∀ j,d' j=(decide (j=X) || d j)) (hw:wrF g X=true):rfF n g d'=rfF n g d:=by
 funext i;unfold rfF;rw [hd];by_cases h:i=X
 ·subst h
  rw [AnL hw];cases d i <;> simp
 ·simp [h]
end Go.Proofs.YtkgdhhieomndeaaGreatDoor.Sh
namespace Go.Sy
def CLe (c c':FuncId->List V->St->T (V×Res)):Prop:=∀ f vs st,TLe (c f vs st) (c' f vs st)
theorem CLe.refl (c:FuncId->List V->St->T (V×Res)):CLe c c:=λ_ _ _=>TLe.refl _
section
variable {τ:List Ty} {c c':FuncId->List V->St->T (V×Res)} {G:Nat->V}
theorem OF (st:St) (x:Operand):ev ⟨c,G⟩ st x=ev ⟨c',G⟩ st x:=by cases x <;> rfl
theorem Li (st:St):∀ l:List Operand,args ⟨c,G⟩ st l=args ⟨c',G⟩ st l
 | []=>rfl
 | x::l=>by
  show ev ⟨c,G⟩ st x::args ⟨c,G⟩ st l=ev ⟨c',G⟩ st x::args ⟨c',G⟩ st l;rw [OF (c:=c) (c':=c'),Li st l]
theorem RU (st:St):∀ l:List (Nat×Operand),evs ⟨c,G⟩ st l=evs ⟨c',G⟩ st l
 | []=>rfl
 | (i,x)::l=>by
   show (i,ev ⟨c,G⟩ st x)::evs ⟨c,G⟩ st l=(i,ev ⟨c',G⟩ st x)::evs ⟨c',G⟩ st l;rw [OF (c:=c) (c':=c'),RU st l]
theorem PB (h:CLe c c') (o:Oper) (st:St):TLe (FU τ ⟨c,G⟩ o st) (FU τ ⟨c',G⟩ o st):=by
 have e1:=λst x=>OF (c:=c) (c':=c') (G:=G) st x;have e2:=λst x=>Li (c:=c) (c':=c') (G:=G) st x;have e3:=λst x=>RU (c:=c) (c':=c') (G:=G) st x;unfold FU;cases ho:o.op with
 | call k =>
  simp only;cases hk:k.callee with
  | value f =>
   simp only [e1,e2];split
   ·exact TLe.bind (h _ _ _) λ_=>TLe.refl _
   ·exact TLe.refl _
  | builtin b =>simp only [e2];cases b <;> exact TLe.refl _
  | invoke r m=>exact TLe.refl _
 | makeFunc fn first captured =>simp only [e1,e2,e3];cases fn <;> exact TLe.refl _
 | slice t x lo hi mx =>have e4:ev (⟨c,G⟩:Cx0) st=ev ⟨c',G⟩ st:=funext (e1 st);simp only [e4];cases mx <;> exact TLe.refl _
 | lookup t m x ok =>simp only [e1,e2,e3];cases ok <;> exact TLe.refl _
 | _ =>simp only [e1,e2,e3];exact TLe.refl _
theorem SH (h:CLe c c') (o:Oper) (st:St):TLe (step τ ⟨c,G⟩ o st) (step τ ⟨c',G⟩ o st):=by
 have e1:=λst x=>OF (c:=c) (c':=c') (G:=G) st x;have e2:=λst x=>Li (c:=c) (c':=c') (G:=G) st x;have e3:=λst x=>RU (c:=c) (c':=c') (G:=G) st x;have quiet:TLe (keep st (FU τ ⟨c,G⟩ o st)) (keep st (FU τ ⟨c',G⟩ o st)):=TLe.bind (PB h o st) λ_=>TLe.refl _;have e4:ev (⟨c,G⟩:Cx0) st=ev ⟨c',G⟩ st:=funext (e1 st);have loud:∀ k:Call,TLe (PC τ ⟨c,G⟩ k st) (PC τ ⟨c',G⟩ k st):=λk=>by
  unfold PC;cases hk:k.callee with
  | value f =>
   simp only [e1,e2];split
   ·exact TLe.bind (h _ _ _) λ_=>TLe.refl _
   ·exact TLe.refl _
  | builtin b =>simp only [e2];cases b <;> exact TLe.refl _
  | invoke r m=>exact TLe.refl _
 unfold step;cases ho:o.op with
 | call k =>
  simp only;split
  ·exact loud k
  ·exact quiet
 | slice t x lo hi mx=>exact quiet
 | makeMap t r =>
  cases r with
  | none=>exact TLe.refl _
  | some r=>exact quiet
 | _ =>
  simp only [e1,e3,e4]
  first
   | exact TLe.refl _
   | exact quiet
theorem Qp {α:Type} {all:Array Oper} {st:St} {o:Oper} {r r' k:T α} (h:TLe r r'):TLe (Hy all st o r k) (Hy all st o r' k):=by
 have br:∀ b,TLe (T.br b r k) (T.br b r' k):=λb=>by
  cases b with
  | true=>exact h
  | false=>exact TLe.refl _
 have br':∀ b,TLe (T.br b k r) (T.br b k r'):=λb=>by
  cases b with
  | true=>exact TLe.refl _
  | false=>exact h
 unfold Hy;split
 ·exact h
 ·split
  ·split
   ·split
    ·split
     ·exact br _
     ·exact br' _
    ·exact TLe.refl _
    ·exact TLe.refl _
   ·exact TLe.refl _
  ·exact TLe.refl _
theorem PP (h:CLe c c') (all:Array Oper) (o:Oper) (st:St):TLe (Mt τ ⟨c,G⟩ all o st) (Mt τ ⟨c',G⟩ all o st) :=
 Qp (TLe.bind (SH h o st) λ_=>TLe.refl _)
theorem J2 (h:CLe c c') (all:Array Oper):∀ (l:List Oper) (st:St),TLe (EU τ ⟨c,G⟩ all l st) (EU τ ⟨c',G⟩ all l st)
 | [],_=>TLe.refl _
 | o::l,st=>TLe.bind (PP h all o st) λst=>J2 h all l st
theorem J3 (h:CLe c c') (all:Array Oper) (o:Oper) (st:St):TLe (Dc τ ⟨c,G⟩ all o st) (Dc τ ⟨c',G⟩ all o st) :=
 Qp (PB h o _)
theorem Fl (h:CLe c c') (all:Array Oper):∀ (l:List Oper) (st:St),TLe (DU τ ⟨c,G⟩ all l st) (DU τ ⟨c',G⟩ all l st)
 | [],_=>TLe.refl _
 | o::l,st=>TLe.bind (J3 h all o st) λv=>Fl h all l _
theorem Ia (h:CLe c c') (all:Array Oper):∀ (l:List Nat) (st:St),TLe (Fm τ ⟨c,G⟩ all l st) (Fm τ ⟨c',G⟩ all l st)
 | [],_=>TLe.refl _
 | q::l,st=>by
  simp only [Fm];split
  ·exact TLe.bind (J3 h all _ st) λv=>Ia h all l _
  ·exact TLe.refl _
theorem FV (h:CLe c c') (all:Array Oper):∀ (l:List Nat) (st:St),TLe (E1 τ ⟨c,G⟩ all l st) (E1 τ ⟨c',G⟩ all l st)
 | [],_=>TLe.refl _
 | q::l,st=>by
  simp only [E1];split
  ·split
   ·exact TLe.bind (J3 h all _ st) λv=>TLe.bind (TLe.refl _) λ_=>FV h all l st
   ·exact TLe.refl _
  ·exact TLe.refl _
theorem ev_same (st:St) (x:Operand):ev ⟨c,G⟩ st x=ev ⟨c',G⟩ st x:=by cases x <;> rfl
theorem ST (st:St) (y:Operand):SU ⟨c,G⟩ st y=SU ⟨c',G⟩ st y:=by
 unfold SU;rw [ev_same (c:=c) (c':=c')]
theorem PL (all:Array Oper) (st:St):HX τ ⟨c,G⟩ all st=HX τ ⟨c',G⟩ all st:=by
 funext q;unfold HX;simp only [ST (c:=c) (c':=c')]
theorem YS (all:Array Oper) (o:Oper) (st:St):M9 τ ⟨c,G⟩ all o st=M9 τ ⟨c',G⟩ all o st:=by
 funext q;unfold M9 Qs;simp only [PL (c:=c) (c':=c'),ST (c:=c) (c':=c'),ev_same (c:=c) (c':=c')]
theorem VP (h:CLe c c') (all:Array Oper) (ql:List Nat) (p:Nat) (st:St):TLe (OB τ ⟨c,G⟩ all ql p st) (OB τ ⟨c',G⟩ all ql p st):=by
 unfold OB;split
 ·split
  ·split
   ·rw [PL (c:=c) (c':=c')]
    exact TLe.bind (TLe.refl _) λ_=>TLe.bind (TLe.refl _) λ_=>TLe.bind (SH h _ st) λ_=>TLe.refl _
   ·exact TLe.refl _
  ·exact TLe.refl _
 ·exact TLe.refl _
theorem YK (h:CLe c c') (o:Oper) (st:St):∀ l:List Nat,TLe (Qk ⟨c,G⟩ o st l) (Qk ⟨c',G⟩ o st l)
 | []=>TLe.refl _
 | _::_=>by
  simp only [Qk];split
  ·split
   ·rw [ev_same (c:=c) (c':=c'),Li (c:=c) (c':=c')]
    split
    ·exact TLe.bind (h _ _ _) λ_=>TLe.refl _
    ·exact TLe.refl _
   ·exact TLe.refl _
  ·exact TLe.refl _
theorem Hj (h:CLe c c') (all:Array Oper) (bf:Array Nat) (lts vs:List Nat) (p:Nat):∀ (l ql:List Nat) (st:St),TLe (EC τ ⟨c,G⟩ all bf lts vs p ql l st) (EC τ ⟨c',G⟩ all bf lts vs p ql l st)
 | [],_,_=>TLe.refl _
 | i::l,ql,st=>by
  simp only [EC];split
  ·rw [YS (c:=c) (c':=c')]
   refine TLe.bind ?_ λ_=>TLe.bind (TLe.refl _) λ_=>TLe.bind (YK h _ _ _) λ_=>TLe.bind (PP h all _ st) λst1=>TLe.bind (FV h all _ st1) λ_=>Hj h all bf lts vs p l _ st1;split
   ·exact VP h all ql p st
   ·exact TLe.refl _
  ·exact TLe.refl _
theorem Ab3 (h:CLe c c') (ops:Array Oper) (m:Nat) (es ls:List Nat) (st:St):TLe (C3 τ ⟨c,G⟩ ops m es ls st) (C3 τ ⟨c',G⟩ ops m es ls st):=by
 unfold C3 EH FE;split
 ·exact TLe.bind (Fl h ops _ st) λst=>TLe.bind (Ia h ops ls st) λst=>TLe.bind (TLe.refl _) λ_=>TLe.bind (FV h ops _ st) λ_=>TLe.bind (Hj h ops _ _ _ _ _ _ _) λ_=>TLe.refl _
 ·exact TLe.refl _
theorem RB (h:CLe c c') (ops:Array Oper) (m:Nat) (lts:List Nat) (p:Nat) (ord vs:List Nat) (st:St):TLe (FE τ ⟨c,G⟩ ops m lts p ord vs st) (FE τ ⟨c',G⟩ ops m lts p ord vs st) :=
 TLe.bind (TLe.refl _) λ_=>TLe.bind (FV h ops _ st) λ_=>TLe.bind (Hj h ops _ _ _ _ _ _ _) λ_=>TLe.refl _
theorem Pv (h:CLe c c') (ops:Array Oper) (m:Nat) (bf:Array Nat) (ls:List Nat) (st:St):TLe (Fy τ ops m bf ls ⟨c,G⟩ st) (Fy τ ops m bf ls ⟨c',G⟩ st):=by
 unfold Fy J9 JA;split
 ·refine TLe.bind (Fl h ops _ st) λst1=>TLe.bind (Ia h ops ls st1) λst2=>?_
  split
  ·exact RB h ops _ _ _ _ _ _
  ·exact Ab3 h ops _ _ _ st
 ·exact TLe.refl _
theorem LW {L L':Nat->(St->T (Ex×St))->St->T (Ex×St)} (h:CLe c c') (hL:LLe L L') :
  ∀ (k:Code) (id:Nat) (st:St),TLe (A7 τ ⟨c,L,G⟩ k id st) (A7 τ ⟨c',L',G⟩ k id st):=by
 intro k
 induction k with
 | skip=>intro id st; exact TLe.refl _
 | region i ops draw =>
  intro id st;simp only [A7];split
  ·exact TLe.bind (J2 h ops _ st) λ_=>TLe.refl _
  ·split
   ·split
    ·split
     ·exact TLe.bind (Fl h ops _ st) λst=>TLe.bind (J2 h ops _ st) λ_=>TLe.refl _
     ·exact TLe.refl _
    ·exact Pv h ops _ _ _ st
   ·exact TLe.refl _
 | seq a b iha ihb =>
  intro id st;refine TLe.bind (iha id st) λr=>?_;cases r.1 with
  | nm=>exact ihb id r.2
  | ex j=>exact TLe.refl _
  | rt=>exact TLe.refl _
 | cond x a b iha ihb =>
  intro id st;have e1:=OF (c:=c) (c':=c') (G:=G) st x;show TLe (match ev ⟨c,G⟩ st x with | .val (.bool q)=>T.br q (A7 τ ⟨c,L,G⟩ a id st) (A7 τ ⟨c,L,G⟩ b id st) | _=>.fail) (match ev ⟨c',G⟩ st x with | .val (.bool q)=>T.br q (A7 τ ⟨c',L',G⟩ a id st) (A7 τ ⟨c',L',G⟩ b id st) | _=>.fail)
  rw [e1];split
  ·rename_i q _
   cases q with
   | true=>exact iha id st
   | false=>exact ihb id st
  ·exact TLe.refl _
 | block i c ih =>
  intro id st;refine TLe.bind (ih i st) λr=>?_;cases r.1 with
  | nm=>exact TLe.refl _
  | ex j=>exact TLe.refl _
  | rt=>exact TLe.refl _
 | loop c ih =>intro id st;exact hL id _ _ st (ih id)
 | exit i=>intro id st; exact TLe.refl _
 | ret=>intro id st; exact TLe.refl _
 | _=>intro id st; exact TLe.refl _
theorem Qw {fn:Func} {vs:List V} {H:List Blk} {L L':Nat->(St->T (Ex×St))->St->T (Ex×St)} (h:CLe c c') (hL:LLe L L'):TLe (Ak τ ⟨c,L,G⟩ fn vs H) (Ak τ ⟨c',L',G⟩ fn vs H):=by
 unfold Ak;cases fn.body with
 | none=>exact TLe.refl _
 | some k=>exact TLe.bind (LW h hL k 0 _) λ_=>TLe.refl _
end
def onC (k:Nat) (p:List V->St->Bool) (r:V×Res) (c:FuncId->List V->St->T (V×Res)):FuncId->List V->St->T (V×Res) :=
 λf vs st=>match Nat.beq f k with
  | true=>.br (p vs st) (.leaf r) .fail
  | false=>c f vs st
noncomputable def isC (c:FuncId->List V->St->T (V×Res)) (k:Nat) (r:V×Res):List V->St->Bool :=
 λvs st=>@decide ((c k vs st).sem=some r) (Classical.propDecidable _)
theorem TC {c:FuncId->List V->St->T (V×Res)} {k:Nat} {r:V×Res} {vs:List V} {st:St} (h:(c k vs st).sem=some r):isC c k r vs st=true:=by
 unfold isC;exact @decide_eq_true _ (Classical.propDecidable _) h
theorem AaR {c' c:FuncId->List V->St->T (V×Res)} {k:Nat} {r:V×Res} (hc:CLe c' c):CLe (onC k (isC c k r) r c') c:=λf vs st r' hr=>by
 unfold onC at hr;cases hk:Nat.beq f k with
 | true =>rw [hk] at hr;obtain ⟨h1,h2⟩:=Ad hr;rw [Ac h2];unfold isC at h1;have h1:=@of_decide_eq_true _ (Classical.propDecidable _) h1;rw [Nat.eq_of_beq_eq_true hk];exact h1
 | false =>rw [hk] at hr;exact hc f vs st _ hr
end Go.Sy
