/-
  Loops that look at all: closed forms. Conditions: none.
-/
import Derived.Test.YtkbafjceglhjhaaGreatDoorEdK
import Derived.Test.YtkbafjceglhjhaaGreatDoorSyY
import Derived.Test.YtkbafjceglhjhaaGreatDoorShBa
namespace Go.Proofs.YtkbafjceglhjhaaGreatDoor.Ed
open Go.Sy Go
theorem eL (n:Nat):AV n (λ_=>true)=true:=A8.2 λ_ _=>rfl
theorem eL2 (q:Nat) (C:Nat->Nat×(Nat->Int)):(AV q λi=>AV (C i).1 λ_=>true)=true:=A8.2 λ_ _=>eL _
theorem Io {i n:Nat} (h:i<n):ieq (Int.ofNat n) 0=false:=by simp [ieq]; omega
theorem Cv {σ ρ:Type} {g:Nat->σ->T (σ ⊕ ρ)} {fin:σ->ρ} {acc:Nat->σ} {n:Nat} (hc:∀ i,i<n->(g i (acc i)).sem=some (.inl (acc (i+1)))):∀ d i,i+d=n->Co g fin d i (acc i)=some (fin (acc n))
 | 0,i,h=>by rw [<- h]; rfl
 | d+1,i,h=>by
  rw [Co,hc i (by omega)];exact Cv hc d (i+1) (by omega)
theorem Gf {σ ρ:Type} {g:Nat->σ->T (σ ⊕ ρ)} {fin:σ->ρ} {acc:Nat->σ} {m:Nat} {x:ρ} (hc:∀ i,i<m->(g i (acc i)).sem=some (.inl (acc (i+1)))) (hx:(g m (acc m)).sem=some (.inr x)):∀ d i,i <= m->m<i+d->Co g fin d i (acc i)=some x
 | 0,i,h,h2=>by omega
 | d+1,i,h,h2=>by
  rcases Nat.lt_or_ge i m with hm | hm
  ·rw [Co,hc i hm]
   exact Gf hc hx d (i+1) (by omega) (by omega)
  ·obtain rfl:i=m:=by omega
   rw [Co,hx]
section
variable {σ ρ:Type} {g:Nat->σ->T (σ ⊕ ρ)} {fin:σ->ρ} {p:Nat->Bool} {a:σ} {x:ρ} {n:Nat} (hc:∀ i,i<n->(g i a).sem=sel (p i) (some (.inl a)) (some (.inr x)))
include hc
theorem Pm:∀ d i,i+d=n->(∀ k,k<i->p k=true)->Co g fin d i a=some (sel (AV n p) (fin a) x)
 | 0,i,h,hb=>by
  rw [show AV n p=true from A8.2 λk hk=>hb k (by omega)];rfl
 | d+1,i,h,hb=>by
  rw [Co,hc i (by omega)];cases hp:p i with
  | true =>
   exact Pm d (i+1) (by omega) λk hk=>by
    by_cases e:k=i
    ·rw [e]; exact hp
    ·exact hb k (by omega)
  | false =>
   cases ha:AV n p with
   | false=>rfl
   | true =>have:=A8.1 ha i (by omega);rw [hp] at this;cases this
theorem PW (h:AV n p=true):Co g fin n 0 a=some (fin a):=by
 rw [Pm hc n 0 (Nat.zero_add n) λ_ h=>absurd h (Nat.not_lt_zero _),h];rfl
theorem PX (h:AV n p=false):Co g fin n 0 a=some x:=by
 rw [Pm hc n 0 (Nat.zero_add n) λ_ h=>absurd h (Nat.not_lt_zero _),h];rfl
end
end Go.Proofs.YtkbafjceglhjhaaGreatDoor.Ed
namespace Go.Proofs.YtkbafjceglhjhaaGreatDoor.Sh
open Go.Sy Ed
open Int (ofNat)
noncomputable def tb53:A7:=(139,BX λe=>bV (AB e))::(141,BX λe=>bV (AH e))::(178,Xi)::[]
theorem tb53_ok:Ao Tryz.prog Gl tb53:=.cons p52 <| .cons p54 <| .cons p92 .nil
theorem BB {a n:Nat} (h:a<2 * n):a % n=if a<n then a else a-n:=by
 split
 ·rename_i h1; exact Nat.mod_eq_of_lt h1
 ·rename_i h1
  have h1:n <= a:=Nat.le_of_not_lt h1;rw [Nat.mod_eq_sub_mod h1,Nat.mod_eq_of_lt (by omega)]
theorem AlG {n z b:Nat} (hz:z<n) (hb:b<n):posN n z ((z+b) % n)=b:=by
 unfold posN;rw [BB (a:=z+b) (by omega)];split
 ·rw [BB (by omega)]; split <;> omega
 ·rw [BB (by omega)]; split <;> omega
theorem Agp {n z i:Nat} (hz:z<n) (hi:i<n):(z+posN n z i) % n=i:=by
 unfold posN;rw [BB (a:=i+(n-z)) (by omega)];split
 ·rw [BB (by omega)]; split <;> omega
 ·rw [BB (by omega)]; split <;> omega
theorem AaP {n z b:Nat} (hz:z<n) (hb:b<n):((z+(b+1)) % n+(n-1)) % n=(z+b) % n:=by
 rcases Nat.lt_or_ge (b+1) n with h | h
 ·rw [BB (a:=z+(b+1)) (by omega),BB (a:=z+b) (by omega)]
  split <;> split <;> (rw [BB (by omega)]; split <;> omega)
 ·have:b+1=n:=by omega
  rw [this,Nat.add_mod_right,Nat.mod_eq_of_lt hz];rw [BB (by omega),BB (a:=z+b) (by omega)];split <;> split <;> omega
theorem LR {a n:Nat} (hn:0<n) (h:a+n <= 9223372036854775807):Ay (wr .i64 (Bz (wr .i64 (Ai (ofNat a) (ofNat n))) 1)) (ofNat n)=ofNat ((a+(n-1)) % n):=by
 rw [FB h];have:wr .i64 (Bz (ofNat (a+n)) 1)=ofNat (a+(n-1)):=by
  have:ofNat (a+n)=ofNat (a+(n-1)+1):=by congr 1; omega
  rw [this];unfold wr Bz IntKind.wrap;simp [IntKind.bits,IntKind.signed];omega
 rw [this,Et]
def FO (p:Nat->Bool) (n:Nat):Nat:=match (List.range n).find? λi=>p ((i+(n-1)) % n) with
 | some z=>z
 | none=>0
theorem AeF {p:Nat->Bool} {n i:Nat} (hi:i<n) (h:p ((i+(n-1)) % n)=true) (hb:∀ k,k<i->p ((k+(n-1)) % n)=false):FO p n=i:=by
 unfold FO;have:(List.range n).find? (λi=>p ((i+(n-1)) % n))=some i:=by
  rw [List.find?_range_eq_some];exact ⟨h,by simpa using hi,λj hj=>by rw [hb j hj]; rfl⟩
 rw [this]
theorem XF {p:Nat->Bool} {n:Nat} (hb:∀ k,k<n->p ((k+(n-1)) % n)=false):FO p n=0:=by
 unfold FO;have:(List.range n).find? (λi=>p ((i+(n-1)) % n))=none:=by
  rw [List.find?_eq_none];intro k hk;rw [hb k (by simpa using hk)];simp
 rw [this]
theorem PP (p:Nat->Bool) {n:Nat} (hn:0<n):Begin p n (FO p n):=by
 cases h:(List.range n).find? (λi=>p ((i+(n-1)) % n)) with
 | none =>
  have hz:FO p n=0:=by unfold FO; rw [h]
  rw [hz];rw [List.find?_eq_none] at h;refine .none λk hk=>?_;have:=h ((k+1) % n) (by simpa using Nat.mod_lt _ hn);rw [show ((k+1) % n+(n-1)) % n=k by
   rw [BB (a:=k+1) (by omega)];split <;> (rw [BB (by omega)]; split <;> omega)] at this
  simpa using this
 | some z =>
  have hz:FO p n=z:=by unfold FO; rw [h]
  rw [hz];rw [List.find?_range_eq_some] at h;obtain ⟨h1,h2,h3⟩:=h;have h2:z<n:=by simpa using h2
  have at':∀ k,0<k->k<n->(k+(n-1)) % n=k-1:=λk h0 hk=>by
   rw [BB (by omega)]; split <;> omega
  have at0:(0+(n-1)) % n=n-1:=by rw [Nat.zero_add,Nat.mod_eq_of_lt (by omega)]
  rcases Nat.eq_zero_or_pos z with h0 | h0
  ·subst h0
   rw [at0] at h1;exact .last hn h1
  ·rw [at' z h0 h2] at h1
   refine .first h0 h2 h1 (λk hk=>?_) ?_
   ·have:=h3 (k+1) (by omega)
    rw [at' (k+1) (by omega) (by omega)] at this;simpa using this
   ·have:=h3 0 h0
    rw [at0] at this;simpa using this
theorem VH (p:Nat->Bool) {n:Nat} (hn:0<n):FO p n<n:=by
 have h:=PP p hn;generalize FO p n=z at h;cases h with
 | none _=>exact hn
 | last _ _=>exact hn
 | first _ h _ _ _=>exact h
def gN (p:Nat->Bool) (n z b i:Nat):Int:=if i<n∧posN n z i<b then ofNat (Ak (Gq p n z) (posN n z i)) else 0
theorem Aqs (p:Nat->Bool) (n z:Nat):gN p n z 0=λ_=>0:=by
 funext i;simp [gN]
theorem Ah8 {p:Nat->Bool} {n z b:Nat} (hz:z<n) (hb:b<n):II (gN p n z b) ((z+b) % n) (ofNat (Ak (Gq p n z) b))=gN p n z (b+1):=by
 funext i;unfold II;by_cases hi:i=(z+b) % n
 ·subst hi
  rw [show decide ((z+b) % n=(z+b) % n)=true by simp];simp only [cond_true];unfold gN;rw [AlG hz hb,if_pos ⟨Nat.mod_lt _ (by omega),by omega⟩]
 ·rw [show decide (i=(z+b) % n)=false by simpa using hi]
  simp only [cond_false];unfold gN;by_cases hin:i<n
  ·have hp:posN n z i ≠ b:=λhe=>hi (by rw [<- he,Agp hz hin])
   by_cases h1:posN n z i<b
   ·rw [if_pos ⟨hin,h1⟩,if_pos ⟨hin,by omega⟩]
   ·rw [if_neg (λh=>h1 h.2),if_neg (λh=>by have:=h.2; omega)]
  ·rw [if_neg (λh=>hin h.1),if_neg (λh=>hin h.1)]
theorem AdM {p:Nat->Bool} {n z i:Nat} (hb:Begin p n z) (hi:i<n):gN p n z n i=ofNat (snN p n z (Bl p n i)):=by
 unfold gN;rw [if_pos ⟨hi,show (i+(n-z)) % n<n from Nat.mod_lt _ (by omega)⟩,Agr hb hi]
def FR (p:Nat->Bool) (n z b i:Nat):Int:=if i<rN p n b then ofNat (snN p n z i) else 0
def Aab (p:Nat->Bool) (n b i:Nat):Int:=if i<b then AC p n i else 0
theorem AlN (p:Nat->Bool) (n:Nat):Aab p n n=AC p n:=by
 funext i;unfold Aab;split
 ·rfl
 ·rename_i h
  unfold AC;rw [show decide (i<n)=false by simpa using h];rfl
theorem Aaa {p:Nat->Bool} {n b:Nat} (hb:b<n):II (Aab p n b) b (ofNat (Bl p n b))=Aab p n (b+1):=by
 funext i;unfold II Aab;by_cases hi:i=b
 ·subst hi
  rw [if_pos (Nat.lt_succ_self i),FX hb];simp
 ·rw [show decide (i=b)=false by simpa using hi]
  simp only [cond_false];by_cases h1:i<b
  ·rw [if_pos h1,if_pos (by omega)]
  ·rw [if_neg h1,if_neg (by omega)]
theorem Ww {p:Nat->Bool} {n z b:Nat} (h:Bl p n b<rN p n b):FR p n z (b+1)=FR p n z b∧rN p n (b+1)=rN p n b:=by
 have:rN p n (b+1)=rN p n b:=by rw [rN,if_pos h]
 exact ⟨by funext i; unfold FR; rw [this],this⟩
theorem ZM {p:Nat->Bool} {n z b:Nat} (h:Bl p n b=rN p n b):AD (rN p n b) (λi=>iV (FR p n z b i)) (iV (ofNat (snN p n z (Bl p n b))))=(λi=>iV (FR p n z (b+1) i))∧rN p n (b+1)=rN p n b+1:=by
 have hr:rN p n (b+1)=rN p n b+1:=by rw [rN,if_neg (by omega)]
 refine ⟨?_,hr⟩;funext k;rw [Br,show Nat.beq k (rN p n b)=decide (k=rN p n b) by rw [Bool.eq_iff_iff]; simp];unfold FR;rw [hr];by_cases hk:k=rN p n b
 ·rw [hk,h]; simp
 ·by_cases h2:k<rN p n b
  ·have:k<rN p n b+1:=by omega
   simp [hk,h2,this]
  ·have:¬ k<rN p n b+1:=by omega
   simp [hk,h2,this]
theorem AbI {p:Nat->Bool} {n z b:Nat} (hb:b<n) (h:Bl p n b<rN p n b):Nz (rN p n b) (FR p n z b) (ofNat (snN p n z (Bl p n b)))=ofNat (Bl p n b):=by
 refine Rk h ?_ λk hk=>?_
 ·unfold FR
  rw [if_pos h];simp [ieq]
 ·unfold FR
  rw [if_pos (by omega)];have:=AiE p n b (by omega) _ h;cases he:ieq (ofNat (snN p n z (Bl p n b))) (ofNat (snN p n z k)) with
  | false=>rfl
  | true =>have he:=Int.ofNat.inj ((beq_iff_eq (α:=Int)).1 he);have:=AbD (p:=p) (n:=n) (z:=z) (Nat.le_of_lt hk) this he.symm;omega
theorem AbJ {p:Nat->Bool} {n z b:Nat} (hb:b<n) (h:Bl p n b=rN p n b):Nz (rN p n b) (FR p n z b) (ofNat (snN p n z (Bl p n b))) = -1:=by
 refine Vg λk hk=>?_;unfold FR;rw [if_pos hk];cases he:ieq (ofNat (snN p n z (Bl p n b))) (ofNat (snN p n z k)) with
 | false=>rfl
 | true =>have he:=Int.ofNat.inj ((beq_iff_eq (α:=Int)).1 he);have:=AbD (p:=p) (n:=n) (z:=z) (show k <= Bl p n b by omega) (Lb (by omega)) he.symm;omega
theorem eq2 {α β γ:Type} (f:α->β->γ) {a a':α} {b b':β} (h:a=a') (k:b=b'):f a b=f a' b':=by rw [h,k]
theorem VG {a n:Nat} (h:a<n) (hn:n <= 4611686018427387904):Al (ile 0 (Ay (wr .i64 (Bz (wr .i64 (Ai (ofNat a) (ofNat n))) 1)) (ofNat n))) (ilt (Ay (wr .i64 (Bz (wr .i64 (Ai (ofNat a) (ofNat n))) 1)) (ofNat n)) (ofNat n))=true:=by
 rw [LR (by omega) (by omega)];exact Ad (Nat.mod_lt _ (by omega))
theorem TT {z i n:Nat} (hz:z<n) (hi:i<n) (hn:n <= 4611686018427387904):Ay (wr .i64 (Ai (ofNat z) (ofNat i))) (ofNat n)=ofNat ((z+i) % n):=by rw [FB (by omega),Et]
theorem H3 {z i n:Nat} (hz:z<n) (hi:i<n) (hn:n <= 4611686018427387904):toN (Ay (wr .i64 (Ai (ofNat z) (ofNat i))) (ofNat n))<n:=by
 rw [TT hz hi hn];exact Nat.mod_lt _ (by omega)
theorem H5 {z i n:Nat} (hz:z<n) (hi:i<n) (hn:n <= 4611686018427387904):Al (ile 0 (Ay (wr .i64 (Ai (ofNat z) (ofNat i))) (ofNat n))) (ilt (Ay (wr .i64 (Ai (ofNat z) (ofNat i))) (ofNat n)) (ofNat n))=true:=by
 rw [TT hz hi hn];exact Ad (Nat.mod_lt _ (by omega))
theorem AaX {z i n:Nat} (hz:z<n) (hi:i<n) (hn:n <= 4611686018427387904):Al (ile 0 (Ay (wr .i64 (Bz (wr .i64 (Ai (Ay (wr .i64 (Ai (ofNat z) (ofNat i))) (ofNat n)) (ofNat n))) 1)) (ofNat n))) (ilt (Ay (wr .i64 (Bz (wr .i64 (Ai (Ay (wr .i64 (Ai (ofNat z) (ofNat i))) (ofNat n)) (ofNat n))) 1)) (ofNat n)) (ofNat n))=true:=by
 rw [TT hz hi hn];exact VG (Nat.mod_lt _ (by omega)) hn
def lp86:Lp:=⟨bmK 97 0 [0,1,4,5,6,18,19],1,bmK 97 0 [0,1,4,5,6],1,4611686018427387905⟩
def S86 (c0:Nat) (p:E6->Bool) (n:Nat) (f:Nat->E6) (c:Int) (a:Unit) (j:Nat->V):St:=⟨jsV 97 0 j [(0,.sl 6 n (λi=>eV (f i))),(1,.fn c0 []),(4,.ref 0),(5,nV n),(6,iV 0),(18,nV n),(19,iV c)],[.row 3 1 0 Aa]⟩
noncomputable def B86 (L:LT):St->T (Ex×St):=λst=>AA tab ⟨Aw tb53,L,Gl⟩ (As Tryz.f140 0) 0 st
def AaZ (c0:Nat) (p:E6->Bool) (n:Nat) (f:Nat->E6) (i:Nat) (a:Unit):Ex×St:=(.ex 0,⟨jsV 97 0 Aa [(0,.sl 6 n (λi=>eV (f i))),(1,.fn c0 []),(4,.ref 0),(5,nV n),(6,nV i)],[.row 3 1 0 Aa]⟩)
def g86 (c0:Nat) (p:E6->Bool) (n:Nat) (f:Nat->E6) (i:Nat) (a:Unit):T ((Unit) ⊕ (Ex×St)):=.br (p (f (toN (Ay (wr .i64 (Bz (wr .i64 (Ai (ofNat i) (ofNat n))) 1)) (ofNat n))))) (.leaf (.inr (AaZ c0 p n f i a))) (.leaf (.inl ()))
def AdS (c0:Nat) (p:E6->Bool) (n:Nat) (f:Nat->E6) (a:Unit):Ex×St:=(.ex 0,⟨jsV 97 0 Aa [(0,.sl 6 n (λi=>eV (f i))),(1,.fn c0 []),(4,.ref 0),(5,nV n),(6,iV 0)],[.row 3 1 0 Aa]⟩)
section
variable (L:LT) (n:Nat) (f:Nat->E6)  (hn:n <= 4611686018427387904)
include L n f hn
theorem Ar4 {e:Ex×St} {a:Unit} {j:Nat->V} (h:Co (g86 139 AB n f) (AdS 139 AB n f) n 0 a=some e):(Av (B86 L) lp86 4611686018427387905 (S86 139 AB n f 0 a j)).sem=some (exR e) :=
 AZ BF hn (λi a j r hi h=>DK.ok (L:=goR (S86 139 AB n f) exR i) (.k (ofNat_lt hi) <| .k (Io hi) <| .k (VG hi hn) <| .c (λh1=>.k h1 <| .l) λh1=>.k h1 <| .l) (by kernel_rfl) h) (λa j=>DK.ok (C:=.leaf (AdS 139 AB n f a)) (L:=exR) (.k (A1 (Nat.le_refl n)) .l) (by kernel_rfl) rfl) (Nat.zero_add _).symm (Nat.lt_succ_of_le hn) h
theorem Ar3 {e:Ex×St} {a:Unit} {j:Nat->V} (h:Co (g86 141 AH n f) (AdS 141 AH n f) n 0 a=some e):(Av (B86 L) lp86 4611686018427387905 (S86 141 AH n f 0 a j)).sem=some (exR e) :=
 AZ BF hn (λi a j r hi h=>DK.ok (L:=goR (S86 141 AH n f) exR i) (.k (ofNat_lt hi) <| .k (Io hi) <| .k (VG hi hn) <| .c (λh1=>.k h1 <| .l) λh1=>.k h1 <| .l) (by kernel_rfl) h) (λa j=>DK.ok (C:=.leaf (AdS 141 AH n f a)) (L:=exR) (.k (A1 (Nat.le_refl n)) .l) (by kernel_rfl) rfl) (Nat.zero_add _).symm (Nat.lt_succ_of_le hn) h
end
def RD (c0:Nat) (p:E6->Bool) (n:Nat) (f:Nat->E6) (z:Nat) (c k:Int) (g:Nat->V):St:=⟨jsV 97 0 Aa [(0,.sl 6 n (λi=>eV (f i))),(1,.fn c0 []),(4,.ref 0),(5,nV n),(6,nV z),(8,.ref 1),(9,iV k),(37,nV n),(38,iV c)],[.row 3 1 0 Aa,.row 3 1 n g]⟩
def lp86_2:Lp:=⟨bmK 97 0 [0,1,4,5,6,8,9,37,38],2,bmK 97 0 [0,1,4,5,8],2,4611686018427387905⟩
def Zx (c0:Nat) (p:E6->Bool) (n:Nat) (f:Nat->E6) (z:Nat) (c:Int) (a:Int×(Nat->Int)) (j:Nat->V):St:=⟨jsV 97 0 j [(0,.sl 6 n (λi=>eV (f i))),(1,.fn c0 []),(4,.ref 0),(5,nV n),(6,nV z),(8,.ref 1),(9,iV a.1),(37,nV n),(38,iV c)],[.row 3 1 0 Aa,.row 3 1 n (λi=>iV (a.2 i))]⟩
noncomputable def AjH (L:LT):St->T (Ex×St):=λst=>AA tab ⟨Aw tb53,L,Gl⟩ (As Tryz.f140 2) 2 st
def YT (c0:Nat) (p:E6->Bool) (n:Nat) (f:Nat->E6) (z:Nat) (i:Nat) (a:Int×(Nat->Int)):T ((Int×(Nat->Int)) ⊕ (Ex×St)):=.br (ilt 0 (ofNat i)) (.br (p (f (toN (Ay (wr .i64 (Bz (wr .i64 (Ai (Ay (wr .i64 (Ai (ofNat z) (ofNat i))) (ofNat n)) (ofNat n))) 1)) (ofNat n))))) (.leaf (.inl ((wr .i64 (Ai a.1 1)),II a.2 (toN (Ay (wr .i64 (Ai (ofNat z) (ofNat i))) (ofNat n))) (wr .i64 (Ai a.1 1))))) (.leaf (.inl (a.1,II a.2 (toN (Ay (wr .i64 (Ai (ofNat z) (ofNat i))) (ofNat n))) a.1)))) (.leaf (.inl (a.1,II a.2 (toN (Ay (wr .i64 (Ai (ofNat z) (ofNat i))) (ofNat n))) a.1)))
def M7 (c0:Nat) (p:E6->Bool) (n:Nat) (f:Nat->E6) (z:Nat) (a:Int×(Nat->Int)):Ex×St:=(.ex 2,⟨jsV 97 0 Aa [(0,.sl 6 n (λi=>eV (f i))),(1,.fn c0 []),(4,.ref 0),(5,nV n),(8,.ref 1)],[.row 3 1 0 Aa,.row 3 1 n (λi=>iV (a.2 i))]⟩)
section
variable (L:LT) (n:Nat) (f:Nat->E6) (z:Nat) (hz:z<n) (hn:n <= 4611686018427387904)
include L n f z hz hn
theorem AlF {e:Ex×St} {a:Int×(Nat->Int)} {j:Nat->V} (h:Co (YT 139 AB n f z) (M7 139 AB n f z) n 0 a=some e):(Av (AjH L) lp86_2 4611686018427387905 (Zx 139 AB n f z 0 a j)).sem=some (exR e) :=
 AZ BF hn (λi a j r hi h=>DK.ok (L:=goR (Zx 139 AB n f z) exR i) (.k (ofNat_lt hi) <| .k (Io hi) <| .c (λh1=>.r 8 h1 <| .k (Io hi) <| .k h1 <| .k (AaX hz hi hn) <| .r 3 h1 <| .c (λh2=>.k h2 <| .k (H5 hz hi hn) <| .k (decide_eq_true (H3 hz hi hn)) <| .e (congrArg (λz1=>(Ex.nm,RD 139 AB n f z (wr .i64 (Ai (ofNat i) 1)) (wr .i64 (Ai a.1 1)) z1)) (CG a.2 (toN (Ay (wr .i64 (Ai (ofNat z) (ofNat i))) (ofNat n))) (wr .i64 (Ai a.1 1))))) λh2=>.k h2 <| .k (H5 hz hi hn) <| .k (decide_eq_true (H3 hz hi hn)) <| .e (congrArg (λz1=>(Ex.nm,RD 139 AB n f z (wr .i64 (Ai (ofNat i) 1)) a.1 z1)) (CG a.2 (toN (Ay (wr .i64 (Ai (ofNat z) (ofNat i))) (ofNat n))) a.1))) λh1=>.r 12 h1 <| .k eF <| .k (H5 hz hi hn) <| .k (decide_eq_true (H3 hz hi hn)) <| .e (congrArg (λz1=>(Ex.nm,RD 139 AB n f z (wr .i64 (Ai (ofNat i) 1)) a.1 z1)) (CG a.2 (toN (Ay (wr .i64 (Ai (ofNat z) (ofNat i))) (ofNat n))) a.1))) (by kernel_rfl) h) (λa j=>DK.ok (C:=.leaf (M7 139 AB n f z a)) (L:=exR) (.k (A1 (Nat.le_refl n)) .l) (by kernel_rfl) rfl) (Nat.zero_add _).symm (Nat.lt_succ_of_le hn) h
theorem AlE {e:Ex×St} {a:Int×(Nat->Int)} {j:Nat->V} (h:Co (YT 141 AH n f z) (M7 141 AH n f z) n 0 a=some e):(Av (AjH L) lp86_2 4611686018427387905 (Zx 141 AH n f z 0 a j)).sem=some (exR e) :=
 AZ BF hn (λi a j r hi h=>DK.ok (L:=goR (Zx 141 AH n f z) exR i) (.k (ofNat_lt hi) <| .k (Io hi) <| .c (λh1=>.r 8 h1 <| .k (Io hi) <| .k h1 <| .k (AaX hz hi hn) <| .r 3 h1 <| .c (λh2=>.k h2 <| .k (H5 hz hi hn) <| .k (decide_eq_true (H3 hz hi hn)) <| .e (congrArg (λz1=>(Ex.nm,RD 141 AH n f z (wr .i64 (Ai (ofNat i) 1)) (wr .i64 (Ai a.1 1)) z1)) (CG a.2 (toN (Ay (wr .i64 (Ai (ofNat z) (ofNat i))) (ofNat n))) (wr .i64 (Ai a.1 1))))) λh2=>.k h2 <| .k (H5 hz hi hn) <| .k (decide_eq_true (H3 hz hi hn)) <| .e (congrArg (λz1=>(Ex.nm,RD 141 AH n f z (wr .i64 (Ai (ofNat i) 1)) a.1 z1)) (CG a.2 (toN (Ay (wr .i64 (Ai (ofNat z) (ofNat i))) (ofNat n))) a.1))) λh1=>.r 12 h1 <| .k eF <| .k (H5 hz hi hn) <| .k (decide_eq_true (H3 hz hi hn)) <| .e (congrArg (λz1=>(Ex.nm,RD 141 AH n f z (wr .i64 (Ai (ofNat i) 1)) a.1 z1)) (CG a.2 (toN (Ay (wr .i64 (Ai (ofNat z) (ofNat i))) (ofNat n))) a.1))) (by kernel_rfl) h) (λa j=>DK.ok (C:=.leaf (M7 141 AH n f z a)) (L:=exR) (.k (A1 (Nat.le_refl n)) .l) (by kernel_rfl) rfl) (Nat.zero_add _).symm (Nat.lt_succ_of_le hn) h
end
def Aj5 (n:Nat) (g:Nat->Int) (c:Int) (r:Nat) (s o:Nat->V):St:=⟨jsV 97 0 Aa [(4,.ref 0),(8,.ref 1),(12,.ref 2),(13,.ref 3),(70,nV n),(71,iV c)],[.row 3 1 0 Aa,.row 3 1 n (λi=>iV (g i)),.row 3 1 r s,.row 3 1 n o]⟩
def AcK:Lp:=⟨bmK 97 0 [4,8,12,13,70,71],4,bmK 97 0 [13],4,4611686018427387905⟩
def AjA (n:Nat) (g:Nat->Int) (c:Int) (a:Nat×(Nat->Int)×(Nat->Int)) (j:Nat->V):St:=⟨jsV 97 0 j [(4,.ref 0),(8,.ref 1),(12,.ref 2),(13,.ref 3),(70,nV n),(71,iV c)],[.row 3 1 0 Aa,.row 3 1 n (λi=>iV (g i)),.row 3 1 a.1 (λi=>iV (a.2.1 i)),.row 3 1 n (λi=>iV (a.2.2 i))]⟩
noncomputable def AqY (L:LT):St->T (Ex×St):=λst=>AA tab ⟨Aw tb53,L,Gl⟩ (As Tryz.f140 4) 4 st
noncomputable def AdP (n:Nat) (g:Nat->Int) (i:Nat) (a:Nat×(Nat->Int)×(Nat->Int)):T ((Nat×(Nat->Int)×(Nat->Int)) ⊕ (Ex×St)):=.br (Fa a.1) (.br (ilt (Nz a.1 a.2.1 (g i)) 0) (.br (Bs a.1 1 8) (.leaf (.inl ((AE a.1 1),II a.2.1 a.1 (g i),II a.2.2 i (ofNat a.1)))) .fail) (.leaf (.inl (a.1,a.2.1,II a.2.2 i (Nz a.1 a.2.1 (g i)))))) .fail
def Tm (n:Nat) (g:Nat->Int) (a:Nat×(Nat->Int)×(Nat->Int)):Ex×St:=(.ex 4,⟨jsV 97 0 Aa [(13,.ref 3)],[.row 3 1 0 Aa,.row 3 1 n (λi=>iV (g i)),.row 3 1 a.1 (λi=>iV (a.2.1 i)),.row 3 1 n (λi=>iV (a.2.2 i))]⟩)
theorem AiG (L:LT) (n:Nat) (g:Nat->Int)  (hn:n <= 4611686018427387904) {e:Ex×St} {a:Nat×(Nat->Int)×(Nat->Int)} {j:Nat->V} (h:Co (AdP n g) (Tm n g) n 0 a=some e):(Av (AqY L) AcK 4611686018427387905 (AjA n g 0 a j)).sem=some (exR e) :=
 AZ BF hn (λi a j r hi h=>DK.ok (L:=goR (AjA n g) exR i) (.k (ofNat_lt hi) <| .k (Ad hi) <| .k (decide_eq_true hi) <| .k (eL a.1) <| .g λh1=>.k h1 <| .c (λh2=>.k h2 <| .k (Ad hi) <| .k (decide_eq_true hi) <| .g λh3=>.k h3 <| .k (Ad hi) <| .k (decide_eq_true hi) <| .e (eq2 (λz w=>(Ex.nm,Aj5 n g (wr .i64 (Ai (ofNat i) 1)) (AE a.1 1) z w)) (CG a.2.1 a.1 (g i)) (CG a.2.2 i (ofNat a.1)))) λh2=>.k h2 <| .k (Ad hi) <| .k (decide_eq_true hi) <| .e (congrArg (λw=>(Ex.nm,Aj5 n g (wr .i64 (Ai (ofNat i) 1)) a.1 (λq=>iV (a.2.1 q)) w)) (CG a.2.2 i (Nz a.1 a.2.1 (g i))))) (by kernel_rfl) h) (λa j=>DK.ok (C:=.leaf (Tm n g a)) (L:=exR) (.k (A1 (Nat.le_refl n)) .l) (by kernel_rfl) rfl) (Nat.zero_add _).symm (Nat.lt_succ_of_le hn) h
def Nw:List (Nat×Lp×List (Nat×(Nat->V))):=[(0,lp86,[]),(2,lp86_2,[]),(4,AcK,[(2,λ_=>iV 0)])]
section
variable {c0:Nat} {p:E6->Bool} {n:Nat} {f:Nat->E6} {z:Nat} (hn:n <= 4611686018427387904)
include hn
theorem Ami (h0:0<n):∀ d i,i+d=n->(∀ k,k<i->p (f ((k+(n-1)) % n))=false)->Co (g86 c0 p n f) (AdS c0 p n f) d i ()=some (AaZ c0 p n f (FO (λk=>p (f k)) n) ())
 | 0,i,h,hb=>by
  obtain rfl:i=n:=by omega
  rw [XF (p:=λk=>p (f k)) hb];rfl
 | d+1,i,h,hb=>by
  have hl:i<n:=by omega
  have e:(g86 c0 p n f i ()).sem=sel (p (f ((i+(n-1)) % n))) (some (.inr (AaZ c0 p n f i ()))) (some (.inl ())):=by
   unfold g86;rw [LR (by omega) (by omega)];rfl
  rw [Co,e];cases hp:p (f ((i+(n-1)) % n)) with
  | true =>rw [AeF (p:=λk=>p (f k)) hl hp hb];rfl
  | false =>
   exact Ami h0 d (i+1) (by omega) λk hk=>by
    by_cases hki:k=i
    ·rw [hki]; exact hp
    ·exact hb k (by omega)
theorem Amh (hz:z<n):∀ d b,b+d=n->Co (YT c0 p n f z) (M7 c0 p n f z) d b (ofNat (Ak (Gq (λk=>p (f k)) n z) (b-1)),gN (λk=>p (f k)) n z b)=some (M7 c0 p n f z (ofNat (Ak (Gq (λk=>p (f k)) n z) (n-1)),gN (λk=>p (f k)) n z n))
 | 0,b,h=>by
  rw [<- h];rfl
 | d+1,b,h=>by
  have hl:b<n:=by omega
  have next:=Amh hz d (b+1) (by omega)
  have hs:=Ah8 (p:=λk=>p (f k)) hz hl;rw [show b+1-1=b by omega,<- hs] at next
  rw [Co];unfold YT;rw [TT hz hl hn];cases b with
  | zero=>exact next
  | succ b =>
   have hc:=B2 (Gq (λk=>p (f k)) n z) b;have hm:=Nat.mod_lt (z+(b+1)) (show 0<n by omega);rw [LR (by omega) (by omega),AaP hz (by omega)];rw [show b+1-1=b by omega,show toN (ofNat ((z+b) % n))=(z+b) % n from rfl];rw [show ilt 0 (ofNat (b+1))=true by rw [show (0:Int)=ofNat 0 from rfl,Cw]; simp];cases hp:p (f ((z+b) % n)) with
   | true =>
    rw [EF (show Ak (Gq (λk=>p (f k)) n z) b<n by omega) hn];rw [By (p:=Gq (λk=>p (f k)) n z) (i:=b) hp] at next
    exact next
   | false =>
    rw [BQ (p:=Gq (λk=>p (f k)) n z) (i:=b) hp] at next
    exact next
end
theorem Wv {p:Nat->Bool} {n z b:Nat} (h:Bl p n b=rN p n b):II (FR p n z b) (rN p n b) (ofNat (snN p n z (Bl p n b)))=FR p n z (b+1)∧rN p n (b+1)=rN p n b+1:=by
 obtain ⟨e1,e2⟩:=ZM (z:=z) h;refine ⟨?_,e2⟩;have e:=(CG (FR p n z b) (rN p n b) (ofNat (snN p n z (Bl p n b)))).symm.trans e1;funext i;have:=congrFun e i;simpa [iV] using this
theorem Amg {p:Nat->Bool} {n:Nat} (hn:n * 8 <= 140737488355328) {z:Nat} {g:Nat->Int} (hg:∀ i,i<n->g i=ofNat (snN p n z (Bl p n i))):∀ d b,b+d=n ->
  Co (AdP n g) (Tm n g) d b (rN p n b,FR p n z b,Aab p n b)=some (Tm n g (rN p n n,FR p n z n,AC p n))
 | 0,b,h=>by
  rw [<- AlN p n,<- h];rfl
 | d+1,b,h=>by
  have hl:b<n:=by omega
  have hr:=U0 p n b;have h8:Fa (rN p n b)=true:=by
   unfold Fa;simp;omega
  have next:=Amg hn hg d (b+1) (by omega)
  rw [Co];unfold AdP;dsimp only;rw [h8,hg b hl];rw [<- Aaa hl] at next
  rcases Nat.lt_or_ge (Bl p n b) (rN p n b) with hc | hc
  ·obtain ⟨e1,e2⟩:=Ww (z:=z) hc
   rw [AbI hl hc,show ilt (ofNat (Bl p n b)) 0=false by simp [ilt]];rw [e1,e2] at next
   exact next
  ·have hc:Bl p n b=rN p n b:=Nat.le_antisymm (NA p n b hl) hc
   obtain ⟨e1,e2⟩:=Wv (z:=z) hc;rw [AbJ hl hc,FT (by omega)];rw [<- e1,e2] at next
   rw [hc] at next ⊢
   exact next
theorem Ag5 {n:Nat} {f:Nat->E6} (hp:0<n) (h8:n * 8 <= 140737488355328) (hm:EX 8 (ofNat n) (ofNat n)=true) :
  (A0 (Aj tab (cxA Gl tb53 Nw) Tryz.f140 [AI n f,.fn 139 []] [])).sem=some (.ref 0,[.row 3 1 n λk=>iV (AC (λk=>AB (f k)) n k)]):=by
 have hn:n <= 4611686018427387904:=by omega
 have hz:=VH (λk=>AB (f k)) hp;have l0:=Ami (c0:=139) (p:=AB) (f:=f) hn hp n 0 (Nat.zero_add n) λk hk=>absurd hk (Nat.not_lt_zero _);have l2:=Amh (c0:=139) (p:=AB) (f:=f) hn hz n 0 (Nat.zero_add n);have l4:=Amg h8 (λi hi=>AdM (PP (λk=>AB (f k)) hp) hi) n 0 (Nat.zero_add n);rw [Aqs] at l2;exact DK.of (C:=.leaf _) rfl (.a (Ar4 (askL Nw) n f hn (j:=λ_=>.und) l0) <| .k hm <| .a (AlF (askL Nw) n f _ hz hn (j:=λ_=>.und) l2) <| .k hm <| .a (AiG (askL Nw) n _ hn (j:=λ_=>.und) l4) <| .l) (by kernel_rfl)
theorem Ag4 {n:Nat} {f:Nat->E6} (hp:0<n) (h8:n * 8 <= 140737488355328) (hm:EX 8 (ofNat n) (ofNat n)=true) :
  (A0 (Aj tab (cxA Gl tb53 Nw) Tryz.f140 [AI n f,.fn 141 []] [])).sem=some (.ref 0,[.row 3 1 n λk=>iV (AC (λk=>AH (f k)) n k)]):=by
 have hn:n <= 4611686018427387904:=by omega
 have hz:=VH (λk=>AH (f k)) hp;have l0:=Ami (c0:=141) (p:=AH) (f:=f) hn hp n 0 (Nat.zero_add n) λk hk=>absurd hk (Nat.not_lt_zero _);have l2:=Amh (c0:=141) (p:=AH) (f:=f) hn hz n 0 (Nat.zero_add n);have l4:=Amg h8 (λi hi=>AdM (PP (λk=>AH (f k)) hp) hi) n 0 (Nat.zero_add n);rw [Aqs] at l2;exact DK.of (C:=.leaf _) rfl (.a (Ar3 (askL Nw) n f hn (j:=λ_=>.und) l0) <| .k hm <| .a (AlE (askL Nw) n f _ hz hn (j:=λ_=>.und) l2) <| .k hm <| .a (AiG (askL Nw) n _ hn (j:=λ_=>.und) l4) <| .l) (by kernel_rfl)
noncomputable def AlX:List V->A5
 | [v,.fn g []]=>apL v λn f=>.br (Al (ilt 0 (ofNat n)) (Al (Fa n) (EX 8 (ofNat n) (ofNat n)))) (match Nat.beq g 139,Nat.beq g 141 with
  | true,_=>.leaf (.ref 0,[.row 3 1 n λk=>iV (AC (λk=>AB (f k)) n k)])
  | _,true=>.leaf (.ref 0,[.row 3 1 n λk=>iV (AC (λk=>AH (f k)) n k)])
  | _,_=>.fail) .fail
 | _=>.fail
theorem p53:Ap Tryz.prog Gl 140 AlX:=by
 refine Ah A2 mixed Tryz.func140 (by kernel_rfl) (by kernel_rfl) λvs v h' h=>?_;unfold AlX at h;split at h
 ·rename_i u g
  obtain ⟨n,f,ha,h1⟩:=CC h;obtain ⟨h8,hq⟩:=Ac h1;have h8:ilt 0 (ofNat n)=true∧Fa n=true∧EX 8 (ofNat n) (ofNat n)=true:=by simpa [Al] using h8
  obtain ⟨h9,h8,hm⟩:=h8;have h9:0<n:=by rw [show (0:Int)=ofNat 0 from rfl,Cw] at h9; simpa using h9
  have h8':n * 8 <= 140737488355328:=of_decide_eq_true h8;have hA:Ba [u,.fn g []] [AI n f,.fn g []]:=λS w cs hv=>by
   obtain ⟨c,l,rfl,q1,q2⟩:=hv;exact ⟨c,l,rfl,ha S w c q1,q2⟩
  cases h52:Nat.beq g 139 with
  | true =>rw [h52] at hq;have he:=Nat.eq_of_beq_eq_true h52;subst he;have:=Ab hq;simp only [Prod.mk.injEq] at this;obtain ⟨rfl,rfl⟩:=this;have hx:=AS tb53_ok Nw (G:=Gl);exact ⟨_,cxA Gl tb53 Nw,_,hA,rfl,hx.1,hx.2,Ag5 h9 h8' hm,Am.refl _⟩
  | false =>
   rw [h52] at hq;cases h54:Nat.beq g 141 with
   | true =>rw [h54] at hq;have he:=Nat.eq_of_beq_eq_true h54;subst he;have:=Ab hq;simp only [Prod.mk.injEq] at this;obtain ⟨rfl,rfl⟩:=this;have hx:=AS tb53_ok Nw (G:=Gl);exact ⟨_,cxA Gl tb53 Nw,_,hA,rfl,hx.1,hx.2,Ag4 h9 h8' hm,Am.refl _⟩
   | false =>rw [h54] at hq;cases hq
 ·cases h
end Go.Proofs.YtkbafjceglhjhaaGreatDoor.Sh
