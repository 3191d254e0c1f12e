/-
  Layer 7: the program's numbers of threads and of locations (met) are the document's parts. No conditions.
-/
import Derived.Test.YtkgdhhieomndeaaGreatDoorShBa
import Derived.Test.YtkgdhhieomndeaaGreatDoorEdX
namespace Go.Proofs.YtkgdhhieomndeaaGreatDoor.Sh
open Go.Sy Ed
open Int (ofNat)
noncomputable def tb53:AK:=(85,BW λe=>bV (AB e))::(87,BW λe=>bV (AN e))::(119,WJ)::[]
theorem tb53_ok:Aq Tryz.prog Gl tb53:=.cons p52 <| .cons p54 <| .cons p92 .nil
theorem BE {a n:Nat} (h:a<2 * n):a % n=if a<n then a else a-n:=by
 split
 ·rename_i h1; exact Nat.mod_eq_of_lt h1
 ·rename_i h1
  have h1:n <= a:=Nat.le_of_not_lt h1;rw [Nat.mod_eq_sub_mod h1,Nat.mod_eq_of_lt (by omega)]
theorem AjJ {n z b:Nat} (hz:z<n) (hb:b<n):posN n z ((z+b) % n)=b:=by
 unfold posN;rw [BE (a:=z+b) (by omega)];split
 ·rw [BE (by omega)]; split <;> omega
 ·rw [BE (by omega)]; split <;> omega
theorem AeY {n z i:Nat} (hz:z<n) (hi:i<n):(z+posN n z i) % n=i:=by
 unfold posN;rw [BE (a:=i+(n-z)) (by omega)];split
 ·rw [BE (by omega)]; split <;> omega
 ·rw [BE (by omega)]; split <;> omega
theorem Aal {n z b:Nat} (hz:z<n) (hb:b<n):((z+(b+1)) % n+(n-1)) % n=(z+b) % n:=by
 rcases Nat.lt_or_ge (b+1) n with h | h
 ·rw [BE (a:=z+(b+1)) (by omega),BE (a:=z+b) (by omega)]
  split <;> split <;> (rw [BE (by omega)]; split <;> omega)
 ·have:b+1=n:=by omega
  rw [this,Nat.add_mod_right,Nat.mod_eq_of_lt hz];rw [BE (by omega),BE (a:=z+b) (by omega)];split <;> split <;> omega
theorem L8 {a n:Nat} (hn:0<n) (h:a+n <= 9223372036854775807):Ar (wr .i64 (AC (wr .i64 (Ak (ofNat a) (ofNat n))) 1)) (ofNat n)=ofNat ((a+(n-1)) % n):=by
 rw [Fb h];have:wr .i64 (AC (ofNat (a+n)) 1)=ofNat (a+(n-1)):=by
  have:ofNat (a+n)=ofNat (a+(n-1)+1):=by congr 1; omega
  rw [this];unfold wr AC IntKind.wrap;simp [IntKind.bits,IntKind.signed];omega
 rw [this,DW]
def Fq (p:Nat->Bool) (n:Nat):Nat:=match (List.range n).find? λi=>p ((i+(n-1)) % n) with
 | some z=>z
 | none=>0
theorem AdK {p:Nat->Bool} {n i:Nat} (hi:i<n) (h:p ((i+(n-1)) % n)=true) (hb:∀ k,k<i->p ((k+(n-1)) % n)=false):Fq p n=i:=by
 unfold Fq;have:(List.range n).find? (λi=>p ((i+(n-1)) % n))=some i:=by
  rw [List.find?_range_eq_some];exact ⟨h,by simpa using hi,λj hj=>by rw [hb j hj]; rfl⟩
 rw [this]
theorem Xv {p:Nat->Bool} {n:Nat} (hb:∀ k,k<n->p ((k+(n-1)) % n)=false):Fq p n=0:=by
 unfold Fq;have:(List.range n).find? (λi=>p ((i+(n-1)) % n))=none:=by
  rw [List.find?_eq_none];intro k hk;rw [hb k (by simpa using hk)];simp
 rw [this]
theorem P5 (p:Nat->Bool) {n:Nat} (hn:0<n):Begin p n (Fq p n):=by
 cases h:(List.range n).find? (λi=>p ((i+(n-1)) % n)) with
 | none =>
  have hz:Fq p n=0:=by unfold Fq; rw [h]
  rw [hz];rw [List.find?_eq_none] at h;refine .none λk hk=>?_;have:=h ((k+1) % n) (by simpa using Nat.mod_lt _ hn);rw [show ((k+1) % n+(n-1)) % n=k by
   rw [BE (a:=k+1) (by omega)];split <;> (rw [BE (by omega)]; split <;> omega)] at this
  simpa using this
 | some z =>
  have hz:Fq p n=z:=by unfold Fq; rw [h]
  rw [hz];rw [List.find?_range_eq_some] at h;obtain ⟨h1,h2,h3⟩:=h;have h2:z<n:=by simpa using h2
  have at':∀ k,0<k->k<n->(k+(n-1)) % n=k-1:=λk h0 hk=>by
   rw [BE (by omega)]; split <;> omega
  have at0:(0+(n-1)) % n=n-1:=by rw [Nat.zero_add,Nat.mod_eq_of_lt (by omega)]
  rcases Nat.eq_zero_or_pos z with h0 | h0
  ·subst h0
   rw [at0] at h1;exact .last hn h1
  ·rw [at' z h0 h2] at h1
   refine .first h0 h2 h1 (λk hk=>?_) ?_
   ·have:=h3 (k+1) (by omega)
    rw [at' (k+1) (by omega) (by omega)] at this;simpa using this
   ·have:=h3 0 h0
    rw [at0] at this;simpa using this
theorem Vu (p:Nat->Bool) {n:Nat} (hn:0<n):Fq p n<n:=by
 have h:=P5 p hn;generalize Fq p n=z at h;cases h with
 | none _=>exact hn
 | last _ _=>exact hn
 | first _ h _ _ _=>exact h
def gN (p:Nat->Bool) (n z b i:Nat):Int:=if i<n∧posN n z i<b then ofNat (An (FH p n z) (posN n z i)) else 0
theorem Anz (p:Nat->Bool) (n z:Nat):gN p n z 0=λ_=>0:=by
 funext i;simp [gN]
theorem Agi {p:Nat->Bool} {n z b:Nat} (hz:z<n) (hb:b<n):Iq (gN p n z b) ((z+b) % n) (ofNat (An (FH p n z) b))=gN p n z (b+1):=by
 funext i;unfold Iq;by_cases hi:i=(z+b) % n
 ·subst hi
  rw [show decide ((z+b) % n=(z+b) % n)=true by simp];simp only [cond_true];unfold gN;rw [AjJ hz hb,if_pos ⟨Nat.mod_lt _ (by omega),by omega⟩]
 ·rw [show decide (i=(z+b) % n)=false by simpa using hi]
  simp only [cond_false];unfold gN;by_cases hin:i<n
  ·have hp:posN n z i ≠ b:=λhe=>hi (by rw [<- he,AeY hz hin])
   by_cases h1:posN n z i<b
   ·rw [if_pos ⟨hin,h1⟩,if_pos ⟨hin,by omega⟩]
   ·rw [if_neg (λh=>h1 h.2),if_neg (λh=>by have:=h.2; omega)]
  ·rw [if_neg (λh=>hin h.1),if_neg (λh=>hin h.1)]
theorem AcJ {p:Nat->Bool} {n z i:Nat} (hb:Begin p n z) (hi:i<n):gN p n z n i=ofNat (snN p n z (AZ p n i)):=by
 unfold gN;rw [if_pos ⟨hi,show (i+(n-z)) % n<n from Nat.mod_lt _ (by omega)⟩,AeZ hb hi]
def Fu (p:Nat->Bool) (n z b i:Nat):Int:=if i<rN p n b then ofNat (snN p n z i) else 0
def Z9 (p:Nat->Bool) (n b i:Nat):Int:=if i<b then AG p n i else 0
theorem AjL (p:Nat->Bool) (n:Nat):Z9 p n n=AG p n:=by
 funext i;unfold Z9;split
 ·rfl
 ·rename_i h
  unfold AG;rw [show decide (i<n)=false by simpa using h];rfl
theorem Z8 {p:Nat->Bool} {n b:Nat} (hb:b<n):Iq (Z9 p n b) b (ofNat (AZ p n b))=Z9 p n (b+1):=by
 funext i;unfold Iq Z9;by_cases hi:i=b
 ·subst hi
  rw [if_pos (Nat.lt_succ_self i),Ey hb];simp
 ·rw [show decide (i=b)=false by simpa using hi]
  simp only [cond_false];by_cases h1:i<b
  ·rw [if_pos h1,if_pos (by omega)]
  ·rw [if_neg h1,if_neg (by omega)]
theorem VV {p:Nat->Bool} {n z b:Nat} (h:AZ p n b<rN p n b):Fu p n z (b+1)=Fu p n z b∧rN p n (b+1)=rN p n b:=by
 have:rN p n (b+1)=rN p n b:=by rw [rN,if_pos h]
 exact ⟨by funext i; unfold Fu; rw [this],this⟩
theorem Zv {p:Nat->Bool} {n z b:Nat} (h:AZ p n b=rN p n b):As (rN p n b) (λi=>iV (Fu p n z b i)) (iV (ofNat (snN p n z (AZ p n b))))=(λi=>iV (Fu p n z (b+1) i))∧rN p n (b+1)=rN p n b+1:=by
 have hr:rN p n (b+1)=rN p n b+1:=by rw [rN,if_neg (by omega)]
 refine ⟨?_,hr⟩;funext k;rw [Bo,show Nat.beq k (rN p n b)=decide (k=rN p n b) by rw [Bool.eq_iff_iff]; simp];unfold Fu;rw [hr];by_cases hk:k=rN p n b
 ·rw [hk,h]; simp
 ·by_cases h2:k<rN p n b
  ·have:k<rN p n b+1:=by omega
   simp [hk,h2,this]
  ·have:¬ k<rN p n b+1:=by omega
   simp [hk,h2,this]
theorem Abk {p:Nat->Bool} {n z b:Nat} (hb:b<n) (h:AZ p n b<rN p n b):Nq (rN p n b) (Fu p n z b) (ofNat (snN p n z (AZ p n b)))=ofNat (AZ p n b):=by
 refine QE h ?_ λk hk=>?_
 ·unfold Fu
  rw [if_pos h];simp [ieq]
 ·unfold Fu
  rw [if_pos (by omega)];have:=Ahe p n b (by omega) _ h;cases he:ieq (ofNat (snN p n z (AZ p n b))) (ofNat (snN p n z k)) with
  | false=>rfl
  | true =>have he:=Int.ofNat.inj ((beq_iff_eq (α:=Int)).1 he);have:=Abg (p:=p) (n:=n) (z:=z) (Nat.le_of_lt hk) this he.symm;omega
theorem Abl {p:Nat->Bool} {n z b:Nat} (hb:b<n) (h:AZ p n b=rN p n b):Nq (rN p n b) (Fu p n z b) (ofNat (snN p n z (AZ p n b))) = -1:=by
 refine UC λk hk=>?_;unfold Fu;rw [if_pos hk];cases he:ieq (ofNat (snN p n z (AZ p n b))) (ofNat (snN p n z k)) with
 | false=>rfl
 | true =>have he:=Int.ofNat.inj ((beq_iff_eq (α:=Int)).1 he);have:=Abg (p:=p) (n:=n) (z:=z) (show k <= AZ p n b by omega) (Ox (by omega)) he.symm;omega
theorem eq2 {α β γ:Type} (f:α->β->γ) {a a':α} {b b':β} (h:a=a') (k:b=b'):f a b=f a' b':=by rw [h,k]
theorem Vt {a n:Nat} (h:a<n) (hn:n <= 4611686018427387904):Ao (ile 0 (Ar (wr .i64 (AC (wr .i64 (Ak (ofNat a) (ofNat n))) 1)) (ofNat n))) (ilt (Ar (wr .i64 (AC (wr .i64 (Ak (ofNat a) (ofNat n))) 1)) (ofNat n)) (ofNat n))=true:=by
 rw [L8 (by omega) (by omega)];exact Ag (Nat.mod_lt _ (by omega))
theorem To {z i n:Nat} (hz:z<n) (hi:i<n) (hn:n <= 4611686018427387904):Ar (wr .i64 (Ak (ofNat z) (ofNat i))) (ofNat n)=ofNat ((z+i) % n):=by rw [Fb (by omega),DW]
theorem Hd {z i n:Nat} (hz:z<n) (hi:i<n) (hn:n <= 4611686018427387904):toN (Ar (wr .i64 (Ak (ofNat z) (ofNat i))) (ofNat n))<n:=by
 rw [To hz hi hn];exact Nat.mod_lt _ (by omega)
theorem He {z i n:Nat} (hz:z<n) (hi:i<n) (hn:n <= 4611686018427387904):Ao (ile 0 (Ar (wr .i64 (Ak (ofNat z) (ofNat i))) (ofNat n))) (ilt (Ar (wr .i64 (Ak (ofNat z) (ofNat i))) (ofNat n)) (ofNat n))=true:=by
 rw [To hz hi hn];exact Ag (Nat.mod_lt _ (by omega))
theorem Aas {z i n:Nat} (hz:z<n) (hi:i<n) (hn:n <= 4611686018427387904):Ao (ile 0 (Ar (wr .i64 (AC (wr .i64 (Ak (Ar (wr .i64 (Ak (ofNat z) (ofNat i))) (ofNat n)) (ofNat n))) 1)) (ofNat n))) (ilt (Ar (wr .i64 (AC (wr .i64 (Ak (Ar (wr .i64 (Ak (ofNat z) (ofNat i))) (ofNat n)) (ofNat n))) 1)) (ofNat n)) (ofNat n))=true:=by
 rw [To hz hi hn];exact Vt (Nat.mod_lt _ (by omega)) hn
def lp86:Lp:=⟨bmK 97 0 [0,1,4,5,6,18,19],1,bmK 97 0 [0,1,4,5,6],1,4611686018427387905⟩
def S86 (c0:Nat) (p:E6->Bool) (n:Nat) (f:Nat->E6) (c:Int) (a:Unit) (j:Nat->V):St:=⟨jsV 97 0 j [(0,.sl 6 n (λi=>eV (f i))),(1,.fn c0 []),(4,.ref 0),(5,nV n),(6,iV 0),(18,nV n),(19,iV c)],[.row 3 1 0 Aa]⟩
noncomputable def B86 (L:LT):St->T (Ex×St):=λst=>AD tab ⟨Am tb53,L,Gl⟩ (Au Tryz.f86 0) 0 st
def Aau (c0:Nat) (p:E6->Bool) (n:Nat) (f:Nat->E6) (i:Nat) (a:Unit):Ex×St:=(.ex 0,⟨jsV 97 0 Aa [(0,.sl 6 n (λi=>eV (f i))),(1,.fn c0 []),(4,.ref 0),(5,nV n),(6,nV i)],[.row 3 1 0 Aa]⟩)
def g86 (c0:Nat) (p:E6->Bool) (n:Nat) (f:Nat->E6) (i:Nat) (a:Unit):T ((Unit) ⊕ (Ex×St)):=.br (p (f (toN (Ar (wr .i64 (AC (wr .i64 (Ak (ofNat i) (ofNat n))) 1)) (ofNat n))))) (.leaf (.inr (Aau c0 p n f i a))) (.leaf (.inl ()))
def AcO (c0:Nat) (p:E6->Bool) (n:Nat) (f:Nat->E6) (a:Unit):Ex×St:=(.ex 0,⟨jsV 97 0 Aa [(0,.sl 6 n (λi=>eV (f i))),(1,.fn c0 []),(4,.ref 0),(5,nV n),(6,iV 0)],[.row 3 1 0 Aa]⟩)
section
variable (L:LT) (n:Nat) (f:Nat->E6)  (hn:n <= 4611686018427387904)
include L n f hn
theorem AoX {e:Ex×St} {a:Unit} {j:Nat->V} (h:BR (g86 85 AB n f) (AcO 85 AB n f) n 0 a=some e):(A3 (B86 L) lp86 4611686018427387905 (S86 85 AB n f 0 a j)).sem=some (exR e) :=
 Bq BZ hn (λi a j r hi h=>DK.ok (L:=goR (S86 85 AB n f) exR i) (.k (ofNat_lt hi) <| .k (KE hi) <| .k (Vt hi hn) <| .c (λh1=>.k h1 <| .l) λh1=>.k h1 <| .l) (by kernel_rfl) h) (λa j=>DK.ok (C:=.leaf (AcO 85 AB n f a)) (L:=exR) (.k (Aw (Nat.le_refl n)) .l) (by kernel_rfl) rfl) (Nat.zero_add _).symm (Nat.lt_succ_of_le hn) h
theorem AoW {e:Ex×St} {a:Unit} {j:Nat->V} (h:BR (g86 87 AN n f) (AcO 87 AN n f) n 0 a=some e):(A3 (B86 L) lp86 4611686018427387905 (S86 87 AN n f 0 a j)).sem=some (exR e) :=
 Bq BZ hn (λi a j r hi h=>DK.ok (L:=goR (S86 87 AN n f) exR i) (.k (ofNat_lt hi) <| .k (KE hi) <| .k (Vt hi hn) <| .c (λh1=>.k h1 <| .l) λh1=>.k h1 <| .l) (by kernel_rfl) h) (λa j=>DK.ok (C:=.leaf (AcO 87 AN n f a)) (L:=exR) (.k (Aw (Nat.le_refl n)) .l) (by kernel_rfl) rfl) (Nat.zero_add _).symm (Nat.lt_succ_of_le hn) h
end
def Rf (c0:Nat) (p:E6->Bool) (n:Nat) (f:Nat->E6) (z:Nat) (c k:Int) (g:Nat->V):St:=⟨jsV 97 0 Aa [(0,.sl 6 n (λi=>eV (f i))),(1,.fn c0 []),(4,.ref 0),(5,nV n),(6,nV z),(8,.ref 1),(9,iV k),(37,nV n),(38,iV c)],[.row 3 1 0 Aa,.row 3 1 n g]⟩
def lp86_2:Lp:=⟨bmK 97 0 [0,1,4,5,6,8,9,37,38],2,bmK 97 0 [0,1,4,5,8],2,4611686018427387905⟩
def Za (c0:Nat) (p:E6->Bool) (n:Nat) (f:Nat->E6) (z:Nat) (c:Int) (a:Int×(Nat->Int)) (j:Nat->V):St:=⟨jsV 97 0 j [(0,.sl 6 n (λi=>eV (f i))),(1,.fn c0 []),(4,.ref 0),(5,nV n),(6,nV z),(8,.ref 1),(9,iV a.1),(37,nV n),(38,iV c)],[.row 3 1 0 Aa,.row 3 1 n (λi=>iV (a.2 i))]⟩
noncomputable def AhU (L:LT):St->T (Ex×St):=λst=>AD tab ⟨Am tb53,L,Gl⟩ (Au Tryz.f86 2) 2 st
def Yu (c0:Nat) (p:E6->Bool) (n:Nat) (f:Nat->E6) (z:Nat) (i:Nat) (a:Int×(Nat->Int)):T ((Int×(Nat->Int)) ⊕ (Ex×St)):=.br (ilt 0 (ofNat i)) (.br (p (f (toN (Ar (wr .i64 (AC (wr .i64 (Ak (Ar (wr .i64 (Ak (ofNat z) (ofNat i))) (ofNat n)) (ofNat n))) 1)) (ofNat n))))) (.leaf (.inl ((wr .i64 (Ak a.1 1)),Iq a.2 (toN (Ar (wr .i64 (Ak (ofNat z) (ofNat i))) (ofNat n))) (wr .i64 (Ak a.1 1))))) (.leaf (.inl (a.1,Iq a.2 (toN (Ar (wr .i64 (Ak (ofNat z) (ofNat i))) (ofNat n))) a.1)))) (.leaf (.inl (a.1,Iq a.2 (toN (Ar (wr .i64 (Ak (ofNat z) (ofNat i))) (ofNat n))) a.1)))
def Mn (c0:Nat) (p:E6->Bool) (n:Nat) (f:Nat->E6) (z:Nat) (a:Int×(Nat->Int)):Ex×St:=(.ex 2,⟨jsV 97 0 Aa [(0,.sl 6 n (λi=>eV (f i))),(1,.fn c0 []),(4,.ref 0),(5,nV n),(8,.ref 1)],[.row 3 1 0 Aa,.row 3 1 n (λi=>iV (a.2 i))]⟩)
section
variable (L:LT) (n:Nat) (f:Nat->E6) (z:Nat) (hz:z<n) (hn:n <= 4611686018427387904)
include L n f z hz hn
theorem AjD {e:Ex×St} {a:Int×(Nat->Int)} {j:Nat->V} (h:BR (Yu 85 AB n f z) (Mn 85 AB n f z) n 0 a=some e):(A3 (AhU L) lp86_2 4611686018427387905 (Za 85 AB n f z 0 a j)).sem=some (exR e) :=
 Bq BZ hn (λi a j r hi h=>DK.ok (L:=goR (Za 85 AB n f z) exR i) (.k (ofNat_lt hi) <| .k (KE hi) <| .c (λh1=>.r 8 h1 <| .k (KE hi) <| .k h1 <| .k (Aas hz hi hn) <| .r 3 h1 <| .c (λh2=>.k h2 <| .k (He hz hi hn) <| .k (decide_eq_true (Hd hz hi hn)) <| .e (congrArg (λz1=>(Ex.nm,Rf 85 AB n f z (wr .i64 (Ak (ofNat i) 1)) (wr .i64 (Ak a.1 1)) z1)) (C3 a.2 (toN (Ar (wr .i64 (Ak (ofNat z) (ofNat i))) (ofNat n))) (wr .i64 (Ak a.1 1))))) λh2=>.k h2 <| .k (He hz hi hn) <| .k (decide_eq_true (Hd hz hi hn)) <| .e (congrArg (λz1=>(Ex.nm,Rf 85 AB n f z (wr .i64 (Ak (ofNat i) 1)) a.1 z1)) (C3 a.2 (toN (Ar (wr .i64 (Ak (ofNat z) (ofNat i))) (ofNat n))) a.1))) λh1=>.r 12 h1 <| .k eF <| .k (He hz hi hn) <| .k (decide_eq_true (Hd hz hi hn)) <| .e (congrArg (λz1=>(Ex.nm,Rf 85 AB n f z (wr .i64 (Ak (ofNat i) 1)) a.1 z1)) (C3 a.2 (toN (Ar (wr .i64 (Ak (ofNat z) (ofNat i))) (ofNat n))) a.1))) (by kernel_rfl) h) (λa j=>DK.ok (C:=.leaf (Mn 85 AB n f z a)) (L:=exR) (.k (Aw (Nat.le_refl n)) .l) (by kernel_rfl) rfl) (Nat.zero_add _).symm (Nat.lt_succ_of_le hn) h
theorem AjC {e:Ex×St} {a:Int×(Nat->Int)} {j:Nat->V} (h:BR (Yu 87 AN n f z) (Mn 87 AN n f z) n 0 a=some e):(A3 (AhU L) lp86_2 4611686018427387905 (Za 87 AN n f z 0 a j)).sem=some (exR e) :=
 Bq BZ hn (λi a j r hi h=>DK.ok (L:=goR (Za 87 AN n f z) exR i) (.k (ofNat_lt hi) <| .k (KE hi) <| .c (λh1=>.r 8 h1 <| .k (KE hi) <| .k h1 <| .k (Aas hz hi hn) <| .r 3 h1 <| .c (λh2=>.k h2 <| .k (He hz hi hn) <| .k (decide_eq_true (Hd hz hi hn)) <| .e (congrArg (λz1=>(Ex.nm,Rf 87 AN n f z (wr .i64 (Ak (ofNat i) 1)) (wr .i64 (Ak a.1 1)) z1)) (C3 a.2 (toN (Ar (wr .i64 (Ak (ofNat z) (ofNat i))) (ofNat n))) (wr .i64 (Ak a.1 1))))) λh2=>.k h2 <| .k (He hz hi hn) <| .k (decide_eq_true (Hd hz hi hn)) <| .e (congrArg (λz1=>(Ex.nm,Rf 87 AN n f z (wr .i64 (Ak (ofNat i) 1)) a.1 z1)) (C3 a.2 (toN (Ar (wr .i64 (Ak (ofNat z) (ofNat i))) (ofNat n))) a.1))) λh1=>.r 12 h1 <| .k eF <| .k (He hz hi hn) <| .k (decide_eq_true (Hd hz hi hn)) <| .e (congrArg (λz1=>(Ex.nm,Rf 87 AN n f z (wr .i64 (Ak (ofNat i) 1)) a.1 z1)) (C3 a.2 (toN (Ar (wr .i64 (Ak (ofNat z) (ofNat i))) (ofNat n))) a.1))) (by kernel_rfl) h) (λa j=>DK.ok (C:=.leaf (Mn 87 AN n f z a)) (L:=exR) (.k (Aw (Nat.le_refl n)) .l) (by kernel_rfl) rfl) (Nat.zero_add _).symm (Nat.lt_succ_of_le hn) h
end
def AhM (n:Nat) (g:Nat->Int) (c:Int) (r:Nat) (s o:Nat->V):St:=⟨jsV 97 0 Aa [(4,.ref 0),(8,.ref 1),(12,.ref 2),(13,.ref 3),(70,nV n),(71,iV c)],[.row 3 1 0 Aa,.row 3 1 n (λi=>iV (g i)),.row 3 1 r s,.row 3 1 n o]⟩
def Acc:Lp:=⟨bmK 97 0 [4,8,12,13,70,71],4,bmK 97 0 [13],4,4611686018427387905⟩
def AhP (n:Nat) (g:Nat->Int) (c:Int) (a:Nat×(Nat->Int)×(Nat->Int)) (j:Nat->V):St:=⟨jsV 97 0 j [(4,.ref 0),(8,.ref 1),(12,.ref 2),(13,.ref 3),(70,nV n),(71,iV c)],[.row 3 1 0 Aa,.row 3 1 n (λi=>iV (g i)),.row 3 1 a.1 (λi=>iV (a.2.1 i)),.row 3 1 n (λi=>iV (a.2.2 i))]⟩
noncomputable def Aoq (L:LT):St->T (Ex×St):=λst=>AD tab ⟨Am tb53,L,Gl⟩ (Au Tryz.f86 4) 4 st
noncomputable def AcL (n:Nat) (g:Nat->Int) (i:Nat) (a:Nat×(Nat->Int)×(Nat->Int)):T ((Nat×(Nat->Int)×(Nat->Int)) ⊕ (Ex×St)):=.br (E9 a.1) (.br (ilt (Nq a.1 a.2.1 (g i)) 0) (.br (Bn a.1 1 8) (.leaf (.inl ((AV a.1 1),Iq a.2.1 a.1 (g i),Iq a.2.2 i (ofNat a.1)))) .fail) (.leaf (.inl (a.1,a.2.1,Iq a.2.2 i (Nq a.1 a.2.1 (g i)))))) .fail
def SC (n:Nat) (g:Nat->Int) (a:Nat×(Nat->Int)×(Nat->Int)):Ex×St:=(.ex 4,⟨jsV 97 0 Aa [(13,.ref 3)],[.row 3 1 0 Aa,.row 3 1 n (λi=>iV (g i)),.row 3 1 a.1 (λi=>iV (a.2.1 i)),.row 3 1 n (λi=>iV (a.2.2 i))]⟩)
theorem Ahf (L:LT) (n:Nat) (g:Nat->Int)  (hn:n <= 4611686018427387904) {e:Ex×St} {a:Nat×(Nat->Int)×(Nat->Int)} {j:Nat->V} (h:BR (AcL n g) (SC n g) n 0 a=some e):(A3 (Aoq L) Acc 4611686018427387905 (AhP n g 0 a j)).sem=some (exR e) :=
 Bq BZ hn (λi a j r hi h=>DK.ok (L:=goR (AhP n g) exR i) (.k (ofNat_lt hi) <| .k (Ag hi) <| .k (decide_eq_true hi) <| .k (eL a.1) <| .g λh1=>.k h1 <| .c (λh2=>.k h2 <| .k (Ag hi) <| .k (decide_eq_true hi) <| .g λh3=>.k h3 <| .k (Ag hi) <| .k (decide_eq_true hi) <| .e (eq2 (λz w=>(Ex.nm,AhM n g (wr .i64 (Ak (ofNat i) 1)) (AV a.1 1) z w)) (C3 a.2.1 a.1 (g i)) (C3 a.2.2 i (ofNat a.1)))) λh2=>.k h2 <| .k (Ag hi) <| .k (decide_eq_true hi) <| .e (congrArg (λw=>(Ex.nm,AhM n g (wr .i64 (Ak (ofNat i) 1)) a.1 (λq=>iV (a.2.1 q)) w)) (C3 a.2.2 i (Nq a.1 a.2.1 (g i))))) (by kernel_rfl) h) (λa j=>DK.ok (C:=.leaf (SC n g a)) (L:=exR) (.k (Aw (Nat.le_refl n)) .l) (by kernel_rfl) rfl) (Nat.zero_add _).symm (Nat.lt_succ_of_le hn) h
def Nm:List (Nat×Lp×List (Nat×(Nat->V))):=[(0,lp86,[]),(2,lp86_2,[]),(4,Acc,[(2,λ_=>iV 0)])]
section
variable {c0:Nat} {p:E6->Bool} {n:Nat} {f:Nat->E6} {z:Nat} (hn:n <= 4611686018427387904)
include hn
theorem Akc (h0:0<n):∀ d i,i+d=n->(∀ k,k<i->p (f ((k+(n-1)) % n))=false)->BR (g86 c0 p n f) (AcO c0 p n f) d i ()=some (Aau c0 p n f (Fq (λk=>p (f k)) n) ())
 | 0,i,h,hb=>by
  obtain rfl:i=n:=by omega
  rw [Xv (p:=λk=>p (f k)) hb];rfl
 | d+1,i,h,hb=>by
  have hl:i<n:=by omega
  have e:(g86 c0 p n f i ()).sem=sel (p (f ((i+(n-1)) % n))) (some (.inr (Aau c0 p n f i ()))) (some (.inl ())):=by
   unfold g86;rw [L8 (by omega) (by omega)];rfl
  rw [BR,e];cases hp:p (f ((i+(n-1)) % n)) with
  | true =>rw [AdK (p:=λk=>p (f k)) hl hp hb];rfl
  | false =>
   exact Akc h0 d (i+1) (by omega) λk hk=>by
    by_cases hki:k=i
    ·rw [hki]; exact hp
    ·exact hb k (by omega)
theorem Akb (hz:z<n):∀ d b,b+d=n->BR (Yu c0 p n f z) (Mn c0 p n f z) d b (ofNat (An (FH (λk=>p (f k)) n z) (b-1)),gN (λk=>p (f k)) n z b)=some (Mn c0 p n f z (ofNat (An (FH (λk=>p (f k)) n z) (n-1)),gN (λk=>p (f k)) n z n))
 | 0,b,h=>by
  rw [<- h];rfl
 | d+1,b,h=>by
  have hl:b<n:=by omega
  have next:=Akb hz d (b+1) (by omega)
  have hs:=Agi (p:=λk=>p (f k)) hz hl;rw [show b+1-1=b by omega,<- hs] at next
  rw [BR];unfold Yu;rw [To hz hl hn];cases b with
  | zero=>exact next
  | succ b =>
   have hc:=Bm (FH (λk=>p (f k)) n z) b;have hm:=Nat.mod_lt (z+(b+1)) (show 0<n by omega);rw [L8 (by omega) (by omega),Aal hz (by omega)];rw [show b+1-1=b by omega,show toN (ofNat ((z+b) % n))=(z+b) % n from rfl];rw [show ilt 0 (ofNat (b+1))=true by rw [show (0:Int)=ofNat 0 from rfl,BP]; simp];cases hp:p (f ((z+b) % n)) with
   | true =>
    rw [Nt (show An (FH (λk=>p (f k)) n z) b<n by omega) hn];rw [B7 (p:=FH (λk=>p (f k)) n z) (i:=b) hp] at next
    exact next
   | false =>
    rw [Cc (p:=FH (λk=>p (f k)) n z) (i:=b) hp] at next
    exact next
end
theorem VU {p:Nat->Bool} {n z b:Nat} (h:AZ p n b=rN p n b):Iq (Fu p n z b) (rN p n b) (ofNat (snN p n z (AZ p n b)))=Fu p n z (b+1)∧rN p n (b+1)=rN p n b+1:=by
 obtain ⟨e1,e2⟩:=Zv (z:=z) h;refine ⟨?_,e2⟩;have e:=(C3 (Fu p n z b) (rN p n b) (ofNat (snN p n z (AZ p n b)))).symm.trans e1;funext i;have:=congrFun e i;simpa [iV] using this
theorem Aka {p:Nat->Bool} {n:Nat} (hn:n * 8 <= 140737488355328) {z:Nat} {g:Nat->Int} (hg:∀ i,i<n->g i=ofNat (snN p n z (AZ p n i))):∀ d b,b+d=n ->
  BR (AcL n g) (SC n g) d b (rN p n b,Fu p n z b,Z9 p n b)=some (SC n g (rN p n n,Fu p n z n,AG p n))
 | 0,b,h=>by
  rw [<- AjL p n,<- h];rfl
 | d+1,b,h=>by
  have hl:b<n:=by omega
  have hr:=Ua p n b;have h8:E9 (rN p n b)=true:=by
   unfold E9;simp;omega
  have next:=Aka hn hg d (b+1) (by omega)
  rw [BR];unfold AcL;dsimp only;rw [h8,hg b hl];rw [<- Z8 hl] at next
  rcases Nat.lt_or_ge (AZ p n b) (rN p n b) with hc | hc
  ·obtain ⟨e1,e2⟩:=VV (z:=z) hc
   rw [Abk hl hc,show ilt (ofNat (AZ p n b)) 0=false by simp [ilt]];rw [e1,e2] at next
   exact next
  ·have hc:AZ p n b=rN p n b:=Nat.le_antisymm (N2 p n b hl) hc
   obtain ⟨e1,e2⟩:=VU (z:=z) hc;rw [Abl hl hc,C0 (by omega)];rw [<- e1,e2] at next
   rw [hc] at next ⊢
   exact next
theorem Afp {n:Nat} {f:Nat->E6} (hp:0<n) (h8:n * 8 <= 140737488355328) (hm:E8 8 (ofNat n) (ofNat n)=true) :
  (Ay (Ai tab (cxA Gl tb53 Nm) Tryz.f86 [AS n f,.fn 85 []] [])).sem=some (.ref 0,[.row 3 1 n λk=>iV (AG (λk=>AB (f k)) n k)]):=by
 have hn:n <= 4611686018427387904:=by omega
 have hz:=Vu (λk=>AB (f k)) hp;have l0:=Akc (c0:=85) (p:=AB) (f:=f) hn hp n 0 (Nat.zero_add n) λk hk=>absurd hk (Nat.not_lt_zero _);have l2:=Akb (c0:=85) (p:=AB) (f:=f) hn hz n 0 (Nat.zero_add n);have l4:=Aka h8 (λi hi=>AcJ (P5 (λk=>AB (f k)) hp) hi) n 0 (Nat.zero_add n);rw [Anz] at l2;exact DK.of (C:=.leaf _) rfl (.a (AoX (askL Nm) n f hn (j:=λ_=>.und) l0) <| .k hm <| .a (AjD (askL Nm) n f _ hz hn (j:=λ_=>.und) l2) <| .k hm <| .a (Ahf (askL Nm) n _ hn (j:=λ_=>.und) l4) <| .l) (by kernel_rfl)
theorem Afo {n:Nat} {f:Nat->E6} (hp:0<n) (h8:n * 8 <= 140737488355328) (hm:E8 8 (ofNat n) (ofNat n)=true) :
  (Ay (Ai tab (cxA Gl tb53 Nm) Tryz.f86 [AS n f,.fn 87 []] [])).sem=some (.ref 0,[.row 3 1 n λk=>iV (AG (λk=>AN (f k)) n k)]):=by
 have hn:n <= 4611686018427387904:=by omega
 have hz:=Vu (λk=>AN (f k)) hp;have l0:=Akc (c0:=87) (p:=AN) (f:=f) hn hp n 0 (Nat.zero_add n) λk hk=>absurd hk (Nat.not_lt_zero _);have l2:=Akb (c0:=87) (p:=AN) (f:=f) hn hz n 0 (Nat.zero_add n);have l4:=Aka h8 (λi hi=>AcJ (P5 (λk=>AN (f k)) hp) hi) n 0 (Nat.zero_add n);rw [Anz] at l2;exact DK.of (C:=.leaf _) rfl (.a (AoW (askL Nm) n f hn (j:=λ_=>.und) l0) <| .k hm <| .a (AjC (askL Nm) n f _ hz hn (j:=λ_=>.und) l2) <| .k hm <| .a (Ahf (askL Nm) n _ hn (j:=λ_=>.und) l4) <| .l) (by kernel_rfl)
noncomputable def AjU:List V->AE
 | [v,.fn g []]=>apL v λn f=>.br (Ao (ilt 0 (ofNat n)) (Ao (E9 n) (E8 8 (ofNat n) (ofNat n)))) (match Nat.beq g 85,Nat.beq g 87 with
  | true,_=>.leaf (.ref 0,[.row 3 1 n λk=>iV (AG (λk=>AB (f k)) n k)])
  | _,true=>.leaf (.ref 0,[.row 3 1 n λk=>iV (AG (λk=>AN (f k)) n k)])
  | _,_=>.fail) .fail
 | _=>.fail
theorem p53:Ax Tryz.prog Gl 86 AjU:=by
 refine Aj A7 mixed Tryz.func86 (by kernel_rfl) (by kernel_rfl) λvs v h' h=>?_;unfold AjU at h;split at h
 ·rename_i u g
  obtain ⟨n,f,ha,h1⟩:=Co h;obtain ⟨h8,hq⟩:=Ad h1;have h8:ilt 0 (ofNat n)=true∧E9 n=true∧E8 8 (ofNat n) (ofNat n)=true:=by simpa [Ao] using h8
  obtain ⟨h9,h8,hm⟩:=h8;have h9:0<n:=by rw [show (0:Int)=ofNat 0 from rfl,BP] at h9; simpa using h9
  have h8':n * 8 <= 140737488355328:=of_decide_eq_true h8;have hA:Bj [u,.fn g []] [AS n f,.fn g []]:=λS w cs hv=>by
   obtain ⟨c,l,rfl,q1,q2⟩:=hv;exact ⟨c,l,rfl,ha S w c q1,q2⟩
  cases h52:Nat.beq g 85 with
  | true =>rw [h52] at hq;have he:=Nat.eq_of_beq_eq_true h52;subst he;have:=Ab hq;simp only [Prod.mk.injEq] at this;obtain ⟨rfl,rfl⟩:=this;have hx:=D2 tb53_ok Nm (G:=Gl);exact ⟨_,cxA Gl tb53 Nm,_,hA,rfl,hx.1,hx.2,Afp h9 h8' hm,Av.refl _⟩
  | false =>
   rw [h52] at hq;cases h54:Nat.beq g 87 with
   | true =>rw [h54] at hq;have he:=Nat.eq_of_beq_eq_true h54;subst he;have:=Ab hq;simp only [Prod.mk.injEq] at this;obtain ⟨rfl,rfl⟩:=this;have hx:=D2 tb53_ok Nm (G:=Gl);exact ⟨_,cxA Gl tb53 Nm,_,hA,rfl,hx.1,hx.2,Afo h9 h8' hm,Av.refl _⟩
   | false =>rw [h54] at hq;cases hq
 ·cases h
end Go.Proofs.YtkgdhhieomndeaaGreatDoor.Sh
