/-
  Loops that look at all: closed forms. Conditions: none.
-/
import Derived.Test.YtkbafjceglhjhaaGreatDoorCyA
import Derived.Test.YtkbafjceglhjhaaGreatDoorSyY
import Derived.Test.YtkbafjceglhjhaaGreatDoorShBa
namespace Go.Proofs.YtkbafjceglhjhaaGreatDoor.Ed
open Go.Sy Go
theorem eL (n:Nat):Bi n (λ_=>true)=true:=AE.2 λ_ _=>rfl
theorem eL2 (q:Nat) (C:Nat->Nat×(Nat->Int)):(Bi q λi=>Bi (C i).1 λ_=>true)=true:=AE.2 λ_ _=>eL _
theorem HH {i n:Nat} (h:i<n):ieq (Int.ofNat n) 0=false:=by simp [ieq]; omega
theorem Co {σ ρ:Type} {g:Nat->σ->T (σ ⊕ ρ)} {fin:σ->ρ} {acc:Nat->σ} {n:Nat} (hc:∀ i,i<n->(g i (acc i)).sem=some (.inl (acc (i+1)))):∀ d i,i+d=n->Ch g fin d i (acc i)=some (fin (acc n))
 | 0,i,h=>by rw [<- h]; rfl
 | d+1,i,h=>by
  rw [Ch,hc i (by omega)];exact Co hc d (i+1) (by omega)
theorem FM {σ ρ:Type} {g:Nat->σ->T (σ ⊕ ρ)} {fin:σ->ρ} {acc:Nat->σ} {m:Nat} {x:ρ} (hc:∀ i,i<m->(g i (acc i)).sem=some (.inl (acc (i+1)))) (hx:(g m (acc m)).sem=some (.inr x)):∀ d i,i <= m->m<i+d->Ch g fin d i (acc i)=some x
 | 0,i,h,h2=>by omega
 | d+1,i,h,h2=>by
  rcases Nat.lt_or_ge i m with hm | hm
  ·rw [Ch,hc i hm]
   exact FM hc hx d (i+1) (by omega) (by omega)
  ·obtain rfl:i=m:=by omega
   rw [Ch,hx]
section
variable {σ ρ:Type} {g:Nat->σ->T (σ ⊕ ρ)} {fin:σ->ρ} {p:Nat->Bool} {a:σ} {x:ρ} {n:Nat} (hc:∀ i,i<n->(g i a).sem=sel (p i) (some (.inl a)) (some (.inr x)))
include hc
theorem O8:∀ d i,i+d=n->(∀ k,k<i->p k=true)->Ch g fin d i a=some (sel (Bi n p) (fin a) x)
 | 0,i,h,hb=>by
  rw [show Bi n p=true from AE.2 λk hk=>hb k (by omega)];rfl
 | d+1,i,h,hb=>by
  rw [Ch,hc i (by omega)];cases hp:p i with
  | true =>
   exact O8 d (i+1) (by omega) λk hk=>by
    by_cases e:k=i
    ·rw [e]; exact hp
    ·exact hb k (by omega)
  | false =>
   cases ha:Bi n p with
   | false=>rfl
   | true =>have:=AE.1 ha i (by omega);rw [hp] at this;cases this
theorem Pm (h:Bi n p=true):Ch g fin n 0 a=some (fin a):=by
 rw [O8 hc n 0 (Nat.zero_add n) λ_ h=>absurd h (Nat.not_lt_zero _),h];rfl
theorem Pn (h:Bi n p=false):Ch g fin n 0 a=some x:=by
 rw [O8 hc n 0 (Nat.zero_add n) λ_ h=>absurd h (Nat.not_lt_zero _),h];rfl
end
end Go.Proofs.YtkbafjceglhjhaaGreatDoor.Ed
namespace Go.Proofs.YtkbafjceglhjhaaGreatDoor.Sh
open Go.Sy Ed
open Int (ofNat)
noncomputable def tb53:A9:=(139,BV λe=>bV (A4 e))::(141,BV λe=>bV (AB e))::(178,VS)::[]
theorem tb53_ok:Ao Tryz.prog Gl tb53:=.cons p52 <| .cons p54 <| .cons p92 .nil
theorem B5 {a n:Nat} (h:a<2 * n):a % n=if a<n then a else a-n:=by
 split
 ·rename_i h1; exact Nat.mod_eq_of_lt h1
 ·rename_i h1
  have h1:n <= a:=Nat.le_of_not_lt h1;rw [Nat.mod_eq_sub_mod h1,Nat.mod_eq_of_lt (by omega)]
theorem Aj3 {n z b:Nat} (hz:z<n) (hb:b<n):posN n z ((z+b) % n)=b:=by
 unfold posN;rw [B5 (a:=z+b) (by omega)];split
 ·rw [B5 (by omega)]; split <;> omega
 ·rw [B5 (by omega)]; split <;> omega
theorem Aew {n z i:Nat} (hz:z<n) (hi:i<n):(z+posN n z i) % n=i:=by
 unfold posN;rw [B5 (a:=i+(n-z)) (by omega)];split
 ·rw [B5 (by omega)]; split <;> omega
 ·rw [B5 (by omega)]; split <;> omega
theorem Zu {n z b:Nat} (hz:z<n) (hb:b<n):((z+(b+1)) % n+(n-1)) % n=(z+b) % n:=by
 rcases Nat.lt_or_ge (b+1) n with h | h
 ·rw [B5 (a:=z+(b+1)) (by omega),B5 (a:=z+b) (by omega)]
  split <;> split <;> (rw [B5 (by omega)]; split <;> omega)
 ·have:b+1=n:=by omega
  rw [this,Nat.add_mod_right,Nat.mod_eq_of_lt hz];rw [B5 (by omega),B5 (a:=z+b) (by omega)];split <;> split <;> omega
theorem Lk {a n:Nat} (hn:0<n) (h:a+n <= 9223372036854775807):Aq (wr .i64 (AZ (wr .i64 (Ah (ofNat a) (ofNat n))) 1)) (ofNat n)=ofNat ((a+(n-1)) % n):=by
 rw [FT h];have:wr .i64 (AZ (ofNat (a+n)) 1)=ofNat (a+(n-1)):=by
  have:ofNat (a+n)=ofNat (a+(n-1)+1):=by congr 1; omega
  rw [this];unfold wr AZ IntKind.wrap;simp [IntKind.bits,IntKind.signed];omega
 rw [this,DZ]
def F5 (p:Nat->Bool) (n:Nat):Nat:=match (List.range n).find? λi=>p ((i+(n-1)) % n) with
 | some z=>z
 | none=>0
theorem AcU {p:Nat->Bool} {n i:Nat} (hi:i<n) (h:p ((i+(n-1)) % n)=true) (hb:∀ k,k<i->p ((k+(n-1)) % n)=false):F5 p n=i:=by
 unfold F5;have:(List.range n).find? (λi=>p ((i+(n-1)) % n))=some i:=by
  rw [List.find?_range_eq_some];exact ⟨h,by simpa using hi,λj hj=>by rw [hb j hj]; rfl⟩
 rw [this]
theorem W0 {p:Nat->Bool} {n:Nat} (hb:∀ k,k<n->p ((k+(n-1)) % n)=false):F5 p n=0:=by
 unfold F5;have:(List.range n).find? (λi=>p ((i+(n-1)) % n))=none:=by
  rw [List.find?_eq_none];intro k hk;rw [hb k (by simpa using hk)];simp
 rw [this]
theorem Ph (p:Nat->Bool) {n:Nat} (hn:0<n):Begin p n (F5 p n):=by
 cases h:(List.range n).find? (λi=>p ((i+(n-1)) % n)) with
 | none =>
  have hz:F5 p n=0:=by unfold F5; rw [h]
  rw [hz];rw [List.find?_eq_none] at h;refine .none λk hk=>?_;have:=h ((k+1) % n) (by simpa using Nat.mod_lt _ hn);rw [show ((k+1) % n+(n-1)) % n=k by
   rw [B5 (a:=k+1) (by omega)];split <;> (rw [B5 (by omega)]; split <;> omega)] at this
  simpa using this
 | some z =>
  have hz:F5 p n=z:=by unfold F5; rw [h]
  rw [hz];rw [List.find?_range_eq_some] at h;obtain ⟨h1,h2,h3⟩:=h;have h2:z<n:=by simpa using h2
  have at':∀ k,0<k->k<n->(k+(n-1)) % n=k-1:=λk h0 hk=>by
   rw [B5 (by omega)]; split <;> omega
  have at0:(0+(n-1)) % n=n-1:=by rw [Nat.zero_add,Nat.mod_eq_of_lt (by omega)]
  rcases Nat.eq_zero_or_pos z with h0 | h0
  ·subst h0
   rw [at0] at h1;exact .last hn h1
  ·rw [at' z h0 h2] at h1
   refine .first h0 h2 h1 (λk hk=>?_) ?_
   ·have:=h3 (k+1) (by omega)
    rw [at' (k+1) (by omega) (by omega)] at this;simpa using this
   ·have:=h3 0 h0
    rw [at0] at this;simpa using this
theorem UB (p:Nat->Bool) {n:Nat} (hn:0<n):F5 p n<n:=by
 have h:=Ph p hn;generalize F5 p n=z at h;cases h with
 | none _=>exact hn
 | last _ _=>exact hn
 | first _ h _ _ _=>exact h
def gN (p:Nat->Bool) (n z b i:Nat):Int:=if i<n∧posN n z i<b then ofNat (Ak (FV p n z) (posN n z i)) else 0
theorem AnE (p:Nat->Bool) (n z:Nat):gN p n z 0=λ_=>0:=by
 funext i;simp [gN]
theorem AfD {p:Nat->Bool} {n z b:Nat} (hz:z<n) (hb:b<n):Iq (gN p n z b) ((z+b) % n) (ofNat (Ak (FV p n z) b))=gN p n z (b+1):=by
 funext i;unfold Iq;by_cases hi:i=(z+b) % n
 ·subst hi
  rw [show decide ((z+b) % n=(z+b) % n)=true by simp];simp only [cond_true];unfold gN;rw [Aj3 hz hb,if_pos ⟨Nat.mod_lt _ (by omega),by omega⟩]
 ·rw [show decide (i=(z+b) % n)=false by simpa using hi]
  simp only [cond_false];unfold gN;by_cases hin:i<n
  ·have hp:posN n z i ≠ b:=λhe=>hi (by rw [<- he,Aew hz hin])
   by_cases h1:posN n z i<b
   ·rw [if_pos ⟨hin,h1⟩,if_pos ⟨hin,by omega⟩]
   ·rw [if_neg (λh=>h1 h.2),if_neg (λh=>by have:=h.2; omega)]
  ·rw [if_neg (λh=>hin h.1),if_neg (λh=>hin h.1)]
theorem Ace {p:Nat->Bool} {n z i:Nat} (hb:Begin p n z) (hi:i<n):gN p n z n i=ofNat (snN p n z (Bc p n i)):=by
 unfold gN;rw [if_pos ⟨hi,show (i+(n-z)) % n<n from Nat.mod_lt _ (by omega)⟩,Aey hb hi]
def F8 (p:Nat->Bool) (n z b i:Nat):Int:=if i<rN p n b then ofNat (snN p n z i) else 0
def YB (p:Nat->Bool) (n b i:Nat):Int:=if i<b then A7 p n i else 0
theorem AjA (p:Nat->Bool) (n:Nat):YB p n n=A7 p n:=by
 funext i;unfold YB;split
 ·rfl
 ·rename_i h
  unfold A7;rw [show decide (i<n)=false by simpa using h];rfl
theorem YA {p:Nat->Bool} {n b:Nat} (hb:b<n):Iq (YB p n b) b (ofNat (Bc p n b))=YB p n (b+1):=by
 funext i;unfold Iq YB;by_cases hi:i=b
 ·subst hi
  rw [if_pos (Nat.lt_succ_self i),FC hb];simp
 ·rw [show decide (i=b)=false by simpa using hi]
  simp only [cond_false];by_cases h1:i<b
  ·rw [if_pos h1,if_pos (by omega)]
  ·rw [if_neg h1,if_neg (by omega)]
theorem Vl {p:Nat->Bool} {n z b:Nat} (h:Bc p n b<rN p n b):F8 p n z (b+1)=F8 p n z b∧rN p n (b+1)=rN p n b:=by
 have:rN p n (b+1)=rN p n b:=by rw [rN,if_pos h]
 exact ⟨by funext i; unfold F8; rw [this],this⟩
theorem Yy {p:Nat->Bool} {n z b:Nat} (h:Bc p n b=rN p n b):AG (rN p n b) (λi=>iV (F8 p n z b i)) (iV (ofNat (snN p n z (Bc p n b))))=(λi=>iV (F8 p n z (b+1) i))∧rN p n (b+1)=rN p n b+1:=by
 have hr:rN p n (b+1)=rN p n b+1:=by rw [rN,if_neg (by omega)]
 refine ⟨?_,hr⟩;funext k;rw [Bu,show Nat.beq k (rN p n b)=decide (k=rN p n b) by rw [Bool.eq_iff_iff]; simp];unfold F8;rw [hr];by_cases hk:k=rN p n b
 ·rw [hk,h]; simp
 ·by_cases h2:k<rN p n b
  ·have:k<rN p n b+1:=by omega
   simp [hk,h2,this]
  ·have:¬ k<rN p n b+1:=by omega
   simp [hk,h2,this]
theorem Aaf {p:Nat->Bool} {n z b:Nat} (hb:b<n) (h:Bc p n b<rN p n b):MM (rN p n b) (F8 p n z b) (ofNat (snN p n z (Bc p n b)))=ofNat (Bc p n b):=by
 refine Qz h ?_ λk hk=>?_
 ·unfold F8
  rw [if_pos h];simp [ieq]
 ·unfold F8
  rw [if_pos (by omega)];have:=AgH p n b (by omega) _ h;cases he:ieq (ofNat (snN p n z (Bc p n b))) (ofNat (snN p n z k)) with
  | false=>rfl
  | true =>have he:=Int.ofNat.inj ((beq_iff_eq (α:=Int)).1 he);have:=Aaa (p:=p) (n:=n) (z:=z) (Nat.le_of_lt hk) this he.symm;omega
theorem Aag {p:Nat->Bool} {n z b:Nat} (hb:b<n) (h:Bc p n b=rN p n b):MM (rN p n b) (F8 p n z b) (ofNat (snN p n z (Bc p n b))) = -1:=by
 refine Ua λk hk=>?_;unfold F8;rw [if_pos hk];cases he:ieq (ofNat (snN p n z (Bc p n b))) (ofNat (snN p n z k)) with
 | false=>rfl
 | true =>have he:=Int.ofNat.inj ((beq_iff_eq (α:=Int)).1 he);have:=Aaa (p:=p) (n:=n) (z:=z) (show k <= Bc p n b by omega) (NQ (by omega)) he.symm;omega
theorem eq2 {α β γ:Type} (f:α->β->γ) {a a':α} {b b':β} (h:a=a') (k:b=b'):f a b=f a' b':=by rw [h,k]
theorem UA {a n:Nat} (h:a<n) (hn:n <= 4611686018427387904):Aj (ile 0 (Aq (wr .i64 (AZ (wr .i64 (Ah (ofNat a) (ofNat n))) 1)) (ofNat n))) (ilt (Aq (wr .i64 (AZ (wr .i64 (Ah (ofNat a) (ofNat n))) 1)) (ofNat n)) (ofNat n))=true:=by
 rw [Lk (by omega) (by omega)];exact Ae (Nat.mod_lt _ (by omega))
theorem SD {z i n:Nat} (hz:z<n) (hi:i<n) (hn:n <= 4611686018427387904):Aq (wr .i64 (Ah (ofNat z) (ofNat i))) (ofNat n)=ofNat ((z+i) % n):=by rw [FT (by omega),DZ]
theorem Hj {z i n:Nat} (hz:z<n) (hi:i<n) (hn:n <= 4611686018427387904):toN (Aq (wr .i64 (Ah (ofNat z) (ofNat i))) (ofNat n))<n:=by
 rw [SD hz hi hn];exact Nat.mod_lt _ (by omega)
theorem Hk {z i n:Nat} (hz:z<n) (hi:i<n) (hn:n <= 4611686018427387904):Aj (ile 0 (Aq (wr .i64 (Ah (ofNat z) (ofNat i))) (ofNat n))) (ilt (Aq (wr .i64 (Ah (ofNat z) (ofNat i))) (ofNat n)) (ofNat n))=true:=by
 rw [SD hz hi hn];exact Ae (Nat.mod_lt _ (by omega))
theorem Z1 {z i n:Nat} (hz:z<n) (hi:i<n) (hn:n <= 4611686018427387904):Aj (ile 0 (Aq (wr .i64 (AZ (wr .i64 (Ah (Aq (wr .i64 (Ah (ofNat z) (ofNat i))) (ofNat n)) (ofNat n))) 1)) (ofNat n))) (ilt (Aq (wr .i64 (AZ (wr .i64 (Ah (Aq (wr .i64 (Ah (ofNat z) (ofNat i))) (ofNat n)) (ofNat n))) 1)) (ofNat n)) (ofNat n))=true:=by
 rw [SD hz hi hn];exact UA (Nat.mod_lt _ (by omega)) hn
def lp86:Lp:=⟨bmK 97 0 [0,1,4,5,6,18,19],1,bmK 97 0 [0,1,4,5,6],1,4611686018427387905⟩
def S86 (c0:Nat) (p:E6->Bool) (n:Nat) (f:Nat->E6) (c:Int) (a:Unit) (j:Nat->V):St:=⟨jsV 97 0 j [(0,.sl 6 n (λi=>eV (f i))),(1,.fn c0 []),(4,.ref 0),(5,nV n),(6,iV 0),(18,nV n),(19,iV c)],[.row 3 1 0 Ab]⟩
noncomputable def B86 (L:LT):St->T (Ex×St):=λst=>A8 tab ⟨Ax tb53,L,Gl⟩ (As Tryz.f140 0) 0 st
def Z3 (c0:Nat) (p:E6->Bool) (n:Nat) (f:Nat->E6) (i:Nat) (a:Unit):Ex×St:=(.ex 0,⟨jsV 97 0 Ab [(0,.sl 6 n (λi=>eV (f i))),(1,.fn c0 []),(4,.ref 0),(5,nV n),(6,nV i)],[.row 3 1 0 Ab]⟩)
def g86 (c0:Nat) (p:E6->Bool) (n:Nat) (f:Nat->E6) (i:Nat) (a:Unit):T ((Unit) ⊕ (Ex×St)):=.br (p (f (toN (Aq (wr .i64 (AZ (wr .i64 (Ah (ofNat i) (ofNat n))) 1)) (ofNat n))))) (.leaf (.inr (Z3 c0 p n f i a))) (.leaf (.inl ()))
def Ack (c0:Nat) (p:E6->Bool) (n:Nat) (f:Nat->E6) (a:Unit):Ex×St:=(.ex 0,⟨jsV 97 0 Ab [(0,.sl 6 n (λi=>eV (f i))),(1,.fn c0 []),(4,.ref 0),(5,nV n),(6,iV 0)],[.row 3 1 0 Ab]⟩)
section
variable (L:LT) (n:Nat) (f:Nat->E6)  (hn:n <= 4611686018427387904)
include L n f hn
theorem AoH {e:Ex×St} {a:Unit} {j:Nat->V} (h:Ch (g86 139 A4 n f) (Ack 139 A4 n f) n 0 a=some e):(Au (B86 L) lp86 4611686018427387905 (S86 139 A4 n f 0 a j)).sem=some (exR e) :=
 AT BA hn (λi a j r hi h=>DK.ok (L:=goR (S86 139 A4 n f) exR i) (.k (ofNat_lt hi) <| .k (HH hi) <| .k (UA hi hn) <| .c (λh1=>.k h1 <| .l) λh1=>.k h1 <| .l) (by kernel_rfl) h) (λa j=>DK.ok (C:=.leaf (Ack 139 A4 n f a)) (L:=exR) (.k (Az (Nat.le_refl n)) .l) (by kernel_rfl) rfl) (Nat.zero_add _).symm (Nat.lt_succ_of_le hn) h
theorem AoG {e:Ex×St} {a:Unit} {j:Nat->V} (h:Ch (g86 141 AB n f) (Ack 141 AB n f) n 0 a=some e):(Au (B86 L) lp86 4611686018427387905 (S86 141 AB n f 0 a j)).sem=some (exR e) :=
 AT BA hn (λi a j r hi h=>DK.ok (L:=goR (S86 141 AB n f) exR i) (.k (ofNat_lt hi) <| .k (HH hi) <| .k (UA hi hn) <| .c (λh1=>.k h1 <| .l) λh1=>.k h1 <| .l) (by kernel_rfl) h) (λa j=>DK.ok (C:=.leaf (Ack 141 AB n f a)) (L:=exR) (.k (Az (Nat.le_refl n)) .l) (by kernel_rfl) rfl) (Nat.zero_add _).symm (Nat.lt_succ_of_le hn) h
end
def QN (c0:Nat) (p:E6->Bool) (n:Nat) (f:Nat->E6) (z:Nat) (c k:Int) (g:Nat->V):St:=⟨jsV 97 0 Ab [(0,.sl 6 n (λi=>eV (f i))),(1,.fn c0 []),(4,.ref 0),(5,nV n),(6,nV z),(8,.ref 1),(9,iV k),(37,nV n),(38,iV c)],[.row 3 1 0 Ab,.row 3 1 n g]⟩
def lp86_2:Lp:=⟨bmK 97 0 [0,1,4,5,6,8,9,37,38],2,bmK 97 0 [0,1,4,5,8],2,4611686018427387905⟩
def Yc (c0:Nat) (p:E6->Bool) (n:Nat) (f:Nat->E6) (z:Nat) (c:Int) (a:Int×(Nat->Int)) (j:Nat->V):St:=⟨jsV 97 0 j [(0,.sl 6 n (λi=>eV (f i))),(1,.fn c0 []),(4,.ref 0),(5,nV n),(6,nV z),(8,.ref 1),(9,iV a.1),(37,nV n),(38,iV c)],[.row 3 1 0 Ab,.row 3 1 n (λi=>iV (a.2 i))]⟩
noncomputable def AhD (L:LT):St->T (Ex×St):=λst=>A8 tab ⟨Ax tb53,L,Gl⟩ (As Tryz.f140 2) 2 st
def X7 (c0:Nat) (p:E6->Bool) (n:Nat) (f:Nat->E6) (z:Nat) (i:Nat) (a:Int×(Nat->Int)):T ((Int×(Nat->Int)) ⊕ (Ex×St)):=.br (ilt 0 (ofNat i)) (.br (p (f (toN (Aq (wr .i64 (AZ (wr .i64 (Ah (Aq (wr .i64 (Ah (ofNat z) (ofNat i))) (ofNat n)) (ofNat n))) 1)) (ofNat n))))) (.leaf (.inl ((wr .i64 (Ah a.1 1)),Iq a.2 (toN (Aq (wr .i64 (Ah (ofNat z) (ofNat i))) (ofNat n))) (wr .i64 (Ah a.1 1))))) (.leaf (.inl (a.1,Iq a.2 (toN (Aq (wr .i64 (Ah (ofNat z) (ofNat i))) (ofNat n))) a.1)))) (.leaf (.inl (a.1,Iq a.2 (toN (Aq (wr .i64 (Ah (ofNat z) (ofNat i))) (ofNat n))) a.1)))
def LR (c0:Nat) (p:E6->Bool) (n:Nat) (f:Nat->E6) (z:Nat) (a:Int×(Nat->Int)):Ex×St:=(.ex 2,⟨jsV 97 0 Ab [(0,.sl 6 n (λi=>eV (f i))),(1,.fn c0 []),(4,.ref 0),(5,nV n),(8,.ref 1)],[.row 3 1 0 Ab,.row 3 1 n (λi=>iV (a.2 i))]⟩)
section
variable (L:LT) (n:Nat) (f:Nat->E6) (z:Nat) (hz:z<n) (hn:n <= 4611686018427387904)
include L n f z hz hn
theorem Aj1 {e:Ex×St} {a:Int×(Nat->Int)} {j:Nat->V} (h:Ch (X7 139 A4 n f z) (LR 139 A4 n f z) n 0 a=some e):(Au (AhD L) lp86_2 4611686018427387905 (Yc 139 A4 n f z 0 a j)).sem=some (exR e) :=
 AT BA hn (λi a j r hi h=>DK.ok (L:=goR (Yc 139 A4 n f z) exR i) (.k (ofNat_lt hi) <| .k (HH hi) <| .c (λh1=>.r 8 h1 <| .k (HH hi) <| .k h1 <| .k (Z1 hz hi hn) <| .r 3 h1 <| .c (λh2=>.k h2 <| .k (Hk hz hi hn) <| .k (decide_eq_true (Hj hz hi hn)) <| .e (congrArg (λz1=>(Ex.nm,QN 139 A4 n f z (wr .i64 (Ah (ofNat i) 1)) (wr .i64 (Ah a.1 1)) z1)) (C2 a.2 (toN (Aq (wr .i64 (Ah (ofNat z) (ofNat i))) (ofNat n))) (wr .i64 (Ah a.1 1))))) λh2=>.k h2 <| .k (Hk hz hi hn) <| .k (decide_eq_true (Hj hz hi hn)) <| .e (congrArg (λz1=>(Ex.nm,QN 139 A4 n f z (wr .i64 (Ah (ofNat i) 1)) a.1 z1)) (C2 a.2 (toN (Aq (wr .i64 (Ah (ofNat z) (ofNat i))) (ofNat n))) a.1))) λh1=>.r 12 h1 <| .k eF <| .k (Hk hz hi hn) <| .k (decide_eq_true (Hj hz hi hn)) <| .e (congrArg (λz1=>(Ex.nm,QN 139 A4 n f z (wr .i64 (Ah (ofNat i) 1)) a.1 z1)) (C2 a.2 (toN (Aq (wr .i64 (Ah (ofNat z) (ofNat i))) (ofNat n))) a.1))) (by kernel_rfl) h) (λa j=>DK.ok (C:=.leaf (LR 139 A4 n f z a)) (L:=exR) (.k (Az (Nat.le_refl n)) .l) (by kernel_rfl) rfl) (Nat.zero_add _).symm (Nat.lt_succ_of_le hn) h
theorem Aj0 {e:Ex×St} {a:Int×(Nat->Int)} {j:Nat->V} (h:Ch (X7 141 AB n f z) (LR 141 AB n f z) n 0 a=some e):(Au (AhD L) lp86_2 4611686018427387905 (Yc 141 AB n f z 0 a j)).sem=some (exR e) :=
 AT BA hn (λi a j r hi h=>DK.ok (L:=goR (Yc 141 AB n f z) exR i) (.k (ofNat_lt hi) <| .k (HH hi) <| .c (λh1=>.r 8 h1 <| .k (HH hi) <| .k h1 <| .k (Z1 hz hi hn) <| .r 3 h1 <| .c (λh2=>.k h2 <| .k (Hk hz hi hn) <| .k (decide_eq_true (Hj hz hi hn)) <| .e (congrArg (λz1=>(Ex.nm,QN 141 AB n f z (wr .i64 (Ah (ofNat i) 1)) (wr .i64 (Ah a.1 1)) z1)) (C2 a.2 (toN (Aq (wr .i64 (Ah (ofNat z) (ofNat i))) (ofNat n))) (wr .i64 (Ah a.1 1))))) λh2=>.k h2 <| .k (Hk hz hi hn) <| .k (decide_eq_true (Hj hz hi hn)) <| .e (congrArg (λz1=>(Ex.nm,QN 141 AB n f z (wr .i64 (Ah (ofNat i) 1)) a.1 z1)) (C2 a.2 (toN (Aq (wr .i64 (Ah (ofNat z) (ofNat i))) (ofNat n))) a.1))) λh1=>.r 12 h1 <| .k eF <| .k (Hk hz hi hn) <| .k (decide_eq_true (Hj hz hi hn)) <| .e (congrArg (λz1=>(Ex.nm,QN 141 AB n f z (wr .i64 (Ah (ofNat i) 1)) a.1 z1)) (C2 a.2 (toN (Aq (wr .i64 (Ah (ofNat z) (ofNat i))) (ofNat n))) a.1))) (by kernel_rfl) h) (λa j=>DK.ok (C:=.leaf (LR 141 AB n f z a)) (L:=exR) (.k (Az (Nat.le_refl n)) .l) (by kernel_rfl) rfl) (Nat.zero_add _).symm (Nat.lt_succ_of_le hn) h
end
def Ah1 (n:Nat) (g:Nat->Int) (c:Int) (r:Nat) (s o:Nat->V):St:=⟨jsV 97 0 Ab [(4,.ref 0),(8,.ref 1),(12,.ref 2),(13,.ref 3),(70,nV n),(71,iV c)],[.row 3 1 0 Ab,.row 3 1 n (λi=>iV (g i)),.row 3 1 r s,.row 3 1 n o]⟩
def Abe:Lp:=⟨bmK 97 0 [4,8,12,13,70,71],4,bmK 97 0 [13],4,4611686018427387905⟩
def Ah8 (n:Nat) (g:Nat->Int) (c:Int) (a:Nat×(Nat->Int)×(Nat->Int)) (j:Nat->V):St:=⟨jsV 97 0 j [(4,.ref 0),(8,.ref 1),(12,.ref 2),(13,.ref 3),(70,nV n),(71,iV c)],[.row 3 1 0 Ab,.row 3 1 n (λi=>iV (g i)),.row 3 1 a.1 (λi=>iV (a.2.1 i)),.row 3 1 n (λi=>iV (a.2.2 i))]⟩
noncomputable def Aov (L:LT):St->T (Ex×St):=λst=>A8 tab ⟨Ax tb53,L,Gl⟩ (As Tryz.f140 4) 4 st
noncomputable def Ach (n:Nat) (g:Nat->Int) (i:Nat) (a:Nat×(Nat->Int)×(Nat->Int)):T ((Nat×(Nat->Int)×(Nat->Int)) ⊕ (Ex×St)):=.br (Gv a.1) (.br (ilt (MM a.1 a.2.1 (g i)) 0) (.br (Bp a.1 1 8) (.leaf (.inl ((AD a.1 1),Iq a.2.1 a.1 (g i),Iq a.2.2 i (ofNat a.1)))) .fail) (.leaf (.inl (a.1,a.2.1,Iq a.2.2 i (MM a.1 a.2.1 (g i)))))) .fail
def RZ (n:Nat) (g:Nat->Int) (a:Nat×(Nat->Int)×(Nat->Int)):Ex×St:=(.ex 4,⟨jsV 97 0 Ab [(13,.ref 3)],[.row 3 1 0 Ab,.row 3 1 n (λi=>iV (g i)),.row 3 1 a.1 (λi=>iV (a.2.1 i)),.row 3 1 n (λi=>iV (a.2.2 i))]⟩)
theorem AgJ (L:LT) (n:Nat) (g:Nat->Int)  (hn:n <= 4611686018427387904) {e:Ex×St} {a:Nat×(Nat->Int)×(Nat->Int)} {j:Nat->V} (h:Ch (Ach n g) (RZ n g) n 0 a=some e):(Au (Aov L) Abe 4611686018427387905 (Ah8 n g 0 a j)).sem=some (exR e) :=
 AT BA hn (λi a j r hi h=>DK.ok (L:=goR (Ah8 n g) exR i) (.k (ofNat_lt hi) <| .k (Ae hi) <| .k (decide_eq_true hi) <| .k (eL a.1) <| .g λh1=>.k h1 <| .c (λh2=>.k h2 <| .k (Ae hi) <| .k (decide_eq_true hi) <| .g λh3=>.k h3 <| .k (Ae hi) <| .k (decide_eq_true hi) <| .e (eq2 (λz w=>(Ex.nm,Ah1 n g (wr .i64 (Ah (ofNat i) 1)) (AD a.1 1) z w)) (C2 a.2.1 a.1 (g i)) (C2 a.2.2 i (ofNat a.1)))) λh2=>.k h2 <| .k (Ae hi) <| .k (decide_eq_true hi) <| .e (congrArg (λw=>(Ex.nm,Ah1 n g (wr .i64 (Ah (ofNat i) 1)) a.1 (λq=>iV (a.2.1 q)) w)) (C2 a.2.2 i (MM a.1 a.2.1 (g i))))) (by kernel_rfl) h) (λa j=>DK.ok (C:=.leaf (RZ n g a)) (L:=exR) (.k (Az (Nat.le_refl n)) .l) (by kernel_rfl) rfl) (Nat.zero_add _).symm (Nat.lt_succ_of_le hn) h
def MH:List (Nat×Lp×List (Nat×(Nat->V))):=[(0,lp86,[]),(2,lp86_2,[]),(4,Abe,[(2,λ_=>iV 0)])]
section
variable {c0:Nat} {p:E6->Bool} {n:Nat} {f:Nat->E6} {z:Nat} (hn:n <= 4611686018427387904)
include hn
theorem AjX (h0:0<n):∀ d i,i+d=n->(∀ k,k<i->p (f ((k+(n-1)) % n))=false)->Ch (g86 c0 p n f) (Ack c0 p n f) d i ()=some (Z3 c0 p n f (F5 (λk=>p (f k)) n) ())
 | 0,i,h,hb=>by
  obtain rfl:i=n:=by omega
  rw [W0 (p:=λk=>p (f k)) hb];rfl
 | d+1,i,h,hb=>by
  have hl:i<n:=by omega
  have e:(g86 c0 p n f i ()).sem=sel (p (f ((i+(n-1)) % n))) (some (.inr (Z3 c0 p n f i ()))) (some (.inl ())):=by
   unfold g86;rw [Lk (by omega) (by omega)];rfl
  rw [Ch,e];cases hp:p (f ((i+(n-1)) % n)) with
  | true =>rw [AcU (p:=λk=>p (f k)) hl hp hb];rfl
  | false =>
   exact AjX h0 d (i+1) (by omega) λk hk=>by
    by_cases hki:k=i
    ·rw [hki]; exact hp
    ·exact hb k (by omega)
theorem AjW (hz:z<n):∀ d b,b+d=n->Ch (X7 c0 p n f z) (LR c0 p n f z) d b (ofNat (Ak (FV (λk=>p (f k)) n z) (b-1)),gN (λk=>p (f k)) n z b)=some (LR c0 p n f z (ofNat (Ak (FV (λk=>p (f k)) n z) (n-1)),gN (λk=>p (f k)) n z n))
 | 0,b,h=>by
  rw [<- h];rfl
 | d+1,b,h=>by
  have hl:b<n:=by omega
  have next:=AjW hz d (b+1) (by omega)
  have hs:=AfD (p:=λk=>p (f k)) hz hl;rw [show b+1-1=b by omega,<- hs] at next
  rw [Ch];unfold X7;rw [SD hz hl hn];cases b with
  | zero=>exact next
  | succ b =>
   have hc:=BK (FV (λk=>p (f k)) n z) b;have hm:=Nat.mod_lt (z+(b+1)) (show 0<n by omega);rw [Lk (by omega) (by omega),Zu hz (by omega)];rw [show b+1-1=b by omega,show toN (ofNat ((z+b) % n))=(z+b) % n from rfl];rw [show ilt 0 (ofNat (b+1))=true by rw [show (0:Int)=ofNat 0 from rfl,Dt]; simp];cases hp:p (f ((z+b) % n)) with
   | true =>
    rw [Eu (show Ak (FV (λk=>p (f k)) n z) b<n by omega) hn];rw [BH (p:=FV (λk=>p (f k)) n z) (i:=b) hp] at next
    exact next
   | false =>
    rw [BZ (p:=FV (λk=>p (f k)) n z) (i:=b) hp] at next
    exact next
end
theorem Vk {p:Nat->Bool} {n z b:Nat} (h:Bc p n b=rN p n b):Iq (F8 p n z b) (rN p n b) (ofNat (snN p n z (Bc p n b)))=F8 p n z (b+1)∧rN p n (b+1)=rN p n b+1:=by
 obtain ⟨e1,e2⟩:=Yy (z:=z) h;refine ⟨?_,e2⟩;have e:=(C2 (F8 p n z b) (rN p n b) (ofNat (snN p n z (Bc p n b)))).symm.trans e1;funext i;have:=congrFun e i;simpa [iV] using this
theorem AjV {p:Nat->Bool} {n:Nat} (hn:n * 8 <= 140737488355328) {z:Nat} {g:Nat->Int} (hg:∀ i,i<n->g i=ofNat (snN p n z (Bc p n i))):∀ d b,b+d=n ->
  Ch (Ach n g) (RZ n g) d b (rN p n b,F8 p n z b,YB p n b)=some (RZ n g (rN p n n,F8 p n z n,A7 p n))
 | 0,b,h=>by
  rw [<- AjA p n,<- h];rfl
 | d+1,b,h=>by
  have hl:b<n:=by omega
  have hr:=To p n b;have h8:Gv (rN p n b)=true:=by
   unfold Gv;simp;omega
  have next:=AjV hn hg d (b+1) (by omega)
  rw [Ch];unfold Ach;dsimp only;rw [h8,hg b hl];rw [<- YA hl] at next
  rcases Nat.lt_or_ge (Bc p n b) (rN p n b) with hc | hc
  ·obtain ⟨e1,e2⟩:=Vl (z:=z) hc
   rw [Aaf hl hc,show ilt (ofNat (Bc p n b)) 0=false by simp [ilt]];rw [e1,e2] at next
   exact next
  ·have hc:Bc p n b=rN p n b:=Nat.le_antisymm (MW p n b hl) hc
   obtain ⟨e1,e2⟩:=Vk (z:=z) hc;rw [Aag hl hc,GH (by omega)];rw [<- e1,e2] at next
   rw [hc] at next ⊢
   exact next
theorem AeC {n:Nat} {f:Nat->E6} (hp:0<n) (h8:n * 8 <= 140737488355328) (hm:EA 8 (ofNat n) (ofNat n)=true) :
  (A0 (Ai tab (cxA Gl tb53 MH) Tryz.f140 [AL n f,.fn 139 []] [])).sem=some (.ref 0,[.row 3 1 n λk=>iV (A7 (λk=>A4 (f k)) n k)]):=by
 have hn:n <= 4611686018427387904:=by omega
 have hz:=UB (λk=>A4 (f k)) hp;have l0:=AjX (c0:=139) (p:=A4) (f:=f) hn hp n 0 (Nat.zero_add n) λk hk=>absurd hk (Nat.not_lt_zero _);have l2:=AjW (c0:=139) (p:=A4) (f:=f) hn hz n 0 (Nat.zero_add n);have l4:=AjV h8 (λi hi=>Ace (Ph (λk=>A4 (f k)) hp) hi) n 0 (Nat.zero_add n);rw [AnE] at l2;exact DK.of (C:=.leaf _) rfl (.a (AoH (askL MH) n f hn (j:=λ_=>.und) l0) <| .k hm <| .a (Aj1 (askL MH) n f _ hz hn (j:=λ_=>.und) l2) <| .k hm <| .a (AgJ (askL MH) n _ hn (j:=λ_=>.und) l4) <| .l) (by kernel_rfl)
theorem AeB {n:Nat} {f:Nat->E6} (hp:0<n) (h8:n * 8 <= 140737488355328) (hm:EA 8 (ofNat n) (ofNat n)=true) :
  (A0 (Ai tab (cxA Gl tb53 MH) Tryz.f140 [AL n f,.fn 141 []] [])).sem=some (.ref 0,[.row 3 1 n λk=>iV (A7 (λk=>AB (f k)) n k)]):=by
 have hn:n <= 4611686018427387904:=by omega
 have hz:=UB (λk=>AB (f k)) hp;have l0:=AjX (c0:=141) (p:=AB) (f:=f) hn hp n 0 (Nat.zero_add n) λk hk=>absurd hk (Nat.not_lt_zero _);have l2:=AjW (c0:=141) (p:=AB) (f:=f) hn hz n 0 (Nat.zero_add n);have l4:=AjV h8 (λi hi=>Ace (Ph (λk=>AB (f k)) hp) hi) n 0 (Nat.zero_add n);rw [AnE] at l2;exact DK.of (C:=.leaf _) rfl (.a (AoG (askL MH) n f hn (j:=λ_=>.und) l0) <| .k hm <| .a (Aj0 (askL MH) n f _ hz hn (j:=λ_=>.und) l2) <| .k hm <| .a (AgJ (askL MH) n _ hn (j:=λ_=>.und) l4) <| .l) (by kernel_rfl)
noncomputable def AjJ:List V->A3
 | [v,.fn g []]=>apL v λn f=>.br (Aj (ilt 0 (ofNat n)) (Aj (Gv n) (EA 8 (ofNat n) (ofNat n)))) (match Nat.beq g 139,Nat.beq g 141 with
  | true,_=>.leaf (.ref 0,[.row 3 1 n λk=>iV (A7 (λk=>A4 (f k)) n k)])
  | _,true=>.leaf (.ref 0,[.row 3 1 n λk=>iV (A7 (λk=>AB (f k)) n k)])
  | _,_=>.fail) .fail
 | _=>.fail
theorem p53:An Tryz.prog Gl 140 AjJ:=by
 refine Al A2 mixed Tryz.func140 (by kernel_rfl) (by kernel_rfl) λvs v h' h=>?_;unfold AjJ at h;split at h
 ·rename_i u g
  obtain ⟨n,f,ha,h1⟩:=Cz h;obtain ⟨h8,hq⟩:=Ac h1;have h8:ilt 0 (ofNat n)=true∧Gv n=true∧EA 8 (ofNat n) (ofNat n)=true:=by simpa [Aj] using h8
  obtain ⟨h9,h8,hm⟩:=h8;have h9:0<n:=by rw [show (0:Int)=ofNat 0 from rfl,Dt] at h9; simpa using h9
  have h8':n * 8 <= 140737488355328:=of_decide_eq_true h8;have hA:Bz [u,.fn g []] [AL n f,.fn g []]:=λS w cs hv=>by
   obtain ⟨c,l,rfl,q1,q2⟩:=hv;exact ⟨c,l,rfl,ha S w c q1,q2⟩
  cases h52:Nat.beq g 139 with
  | true =>rw [h52] at hq;have he:=Nat.eq_of_beq_eq_true h52;subst he;have:=Aa hq;simp only [Prod.mk.injEq] at this;obtain ⟨rfl,rfl⟩:=this;have hx:=AU tb53_ok MH (G:=Gl);exact ⟨_,cxA Gl tb53 MH,_,hA,rfl,hx.1,hx.2,AeC h9 h8' hm,Ap.refl _⟩
  | false =>
   rw [h52] at hq;cases h54:Nat.beq g 141 with
   | true =>rw [h54] at hq;have he:=Nat.eq_of_beq_eq_true h54;subst he;have:=Aa hq;simp only [Prod.mk.injEq] at this;obtain ⟨rfl,rfl⟩:=this;have hx:=AU tb53_ok MH (G:=Gl);exact ⟨_,cxA Gl tb53 MH,_,hA,rfl,hx.1,hx.2,AeB h9 h8' hm,Ap.refl _⟩
   | false =>rw [h54] at hq;cases hq
 ·cases h
end Go.Proofs.YtkbafjceglhjhaaGreatDoor.Sh
