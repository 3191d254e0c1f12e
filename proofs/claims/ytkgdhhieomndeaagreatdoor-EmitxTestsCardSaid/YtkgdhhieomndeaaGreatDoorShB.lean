/-
  Layer 7: the program's numbers of threads and of locations (met) are the document's parts. No conditions.
-/
import Derived.Test.YtkgdhhieomndeaaGreatDoorShBa
import Derived.Test.YtkgdhhieomndeaaGreatDoorEdX
namespace Go.Proofs.YtkgdhhieomndeaaGreatDoor.Sh
open Go.Sy Ed
open Int (ofNat)
noncomputable def tb53:AP:=(85,BI λe=>bV (AK e))::(87,BI λe=>bV (AJ e))::(119,VK)::[]
theorem tb53_ok:Av Tryz.prog Gl tb53:=.cons p52 <| .cons p54 <| .cons p92 .nil
theorem B2 {a n:Nat} (h:a<2 * n):a % n=if a<n then a else a-n:=by
 split
 ·rename_i h1; exact Nat.mod_eq_of_lt h1
 ·rename_i h1
  have h1:n <= a:=Nat.le_of_not_lt h1;rw [Nat.mod_eq_sub_mod h1,Nat.mod_eq_of_lt (by omega)]
theorem AiK {n z b:Nat} (hz:z<n) (hb:b<n):posN n z ((z+b) % n)=b:=by
 unfold posN;rw [B2 (a:=z+b) (by omega)];split
 ·rw [B2 (by omega)]; split <;> omega
 ·rw [B2 (by omega)]; split <;> omega
theorem Aee {n z i:Nat} (hz:z<n) (hi:i<n):(z+posN n z i) % n=i:=by
 unfold posN;rw [B2 (a:=i+(n-z)) (by omega)];split
 ·rw [B2 (by omega)]; split <;> omega
 ·rw [B2 (by omega)]; split <;> omega
theorem Zn {n z b:Nat} (hz:z<n) (hb:b<n):((z+(b+1)) % n+(n-1)) % n=(z+b) % n:=by
 rcases Nat.lt_or_ge (b+1) n with h | h
 ·rw [B2 (a:=z+(b+1)) (by omega),B2 (a:=z+b) (by omega)]
  split <;> split <;> (rw [B2 (by omega)]; split <;> omega)
 ·have:b+1=n:=by omega
  rw [this,Nat.add_mod_right,Nat.mod_eq_of_lt hz];rw [B2 (by omega),B2 (a:=z+b) (by omega)];split <;> split <;> omega
theorem LQ {n:Nat} (h:0<n):ieq (ofNat n) 0=false:=by
 simp [ieq];omega
theorem Lh {a n:Nat} (hn:0<n) (h:a+n <= 9223372036854775807):Ag (wr .i64 (A5 (wr .i64 (Af (ofNat a) (ofNat n))) 1)) (ofNat n)=ofNat ((a+(n-1)) % n):=by
 rw [D8 h];have:wr .i64 (A5 (ofNat (a+n)) 1)=ofNat (a+(n-1)):=by
  have:ofNat (a+n)=ofNat (a+(n-1)+1):=by congr 1; omega
  rw [this];unfold wr A5 IntKind.wrap;simp [IntKind.bits,IntKind.signed];omega
 rw [this,CO]
def Fd (p:Nat->Bool) (n:Nat):Nat:=match (List.range n).find? λi=>p ((i+(n-1)) % n) with
 | some z=>z
 | none=>0
theorem AcQ {p:Nat->Bool} {n i:Nat} (hi:i<n) (h:p ((i+(n-1)) % n)=true) (hb:∀ k,k<i->p ((k+(n-1)) % n)=false):Fd p n=i:=by
 unfold Fd;have:(List.range n).find? (λi=>p ((i+(n-1)) % n))=some i:=by
  rw [List.find?_range_eq_some];exact ⟨h,by simpa using hi,λj hj=>by rw [hb j hj]; rfl⟩
 rw [this]
theorem Wz {p:Nat->Bool} {n:Nat} (hb:∀ k,k<n->p ((k+(n-1)) % n)=false):Fd p n=0:=by
 unfold Fd;have:(List.range n).find? (λi=>p ((i+(n-1)) % n))=none:=by
  rw [List.find?_eq_none];intro k hk;rw [hb k (by simpa using hk)];simp
 rw [this]
theorem Pa (p:Nat->Bool) {n:Nat} (hn:0<n):Begin p n (Fd p n):=by
 cases h:(List.range n).find? (λi=>p ((i+(n-1)) % n)) with
 | none =>
  have hz:Fd p n=0:=by unfold Fd; rw [h]
  rw [hz];rw [List.find?_eq_none] at h;refine .none λk hk=>?_;have:=h ((k+1) % n) (by simpa using Nat.mod_lt _ hn);rw [show ((k+1) % n+(n-1)) % n=k by
   rw [B2 (a:=k+1) (by omega)];split <;> (rw [B2 (by omega)]; split <;> omega)] at this
  simpa using this
 | some z =>
  have hz:Fd p n=z:=by unfold Fd; rw [h]
  rw [hz];rw [List.find?_range_eq_some] at h;obtain ⟨h1,h2,h3⟩:=h;have h2:z<n:=by simpa using h2
  have at':∀ k,0<k->k<n->(k+(n-1)) % n=k-1:=λk h0 hk=>by
   rw [B2 (by omega)]; split <;> omega
  have at0:(0+(n-1)) % n=n-1:=by rw [Nat.zero_add,Nat.mod_eq_of_lt (by omega)]
  rcases Nat.eq_zero_or_pos z with h0 | h0
  ·subst h0
   rw [at0] at h1;exact .last hn h1
  ·rw [at' z h0 h2] at h1
   refine .first h0 h2 h1 (λk hk=>?_) ?_
   ·have:=h3 (k+1) (by omega)
    rw [at' (k+1) (by omega) (by omega)] at this;simpa using this
   ·have:=h3 0 h0
    rw [at0] at this;simpa using this
theorem Uv (p:Nat->Bool) {n:Nat} (hn:0<n):Fd p n<n:=by
 have h:=Pa p hn;generalize Fd p n=z at h;cases h with
 | none _=>exact hn
 | last _ _=>exact hn
 | first _ h _ _ _=>exact h
def gN (p:Nat->Bool) (n z b i:Nat):Int:=if i<n∧posN n z i<b then ofNat (An (F3 p n z) (posN n z i)) else 0
theorem Am5 (p:Nat->Bool) (n z:Nat):gN p n z 0=λ_=>0:=by
 funext i;simp [gN]
theorem Aff {p:Nat->Bool} {n z b:Nat} (hz:z<n) (hb:b<n):HI (gN p n z b) ((z+b) % n) (ofNat (An (F3 p n z) b))=gN p n z (b+1):=by
 funext i;unfold HI;by_cases hi:i=(z+b) % n
 ·subst hi
  rw [show decide ((z+b) % n=(z+b) % n)=true by simp];simp only [cond_true];unfold gN;rw [AiK hz hb,if_pos ⟨Nat.mod_lt _ (by omega),by omega⟩]
 ·rw [show decide (i=(z+b) % n)=false by simpa using hi]
  simp only [cond_false];unfold gN;by_cases hin:i<n
  ·have hp:posN n z i ≠ b:=λhe=>hi (by rw [<- he,Aee hz hin])
   by_cases h1:posN n z i<b
   ·rw [if_pos ⟨hin,h1⟩,if_pos ⟨hin,by omega⟩]
   ·rw [if_neg (λh=>h1 h.2),if_neg (λh=>by have:=h.2; omega)]
  ·rw [if_neg (λh=>hin h.1),if_neg (λh=>hin h.1)]
theorem AbM {p:Nat->Bool} {n z i:Nat} (hb:Begin p n z) (hi:i<n):gN p n z n i=ofNat (snN p n z (AX p n i)):=by
 unfold gN;rw [if_pos ⟨hi,show (i+(n-z)) % n<n from Nat.mod_lt _ (by omega)⟩,Aef hb hi]
def Ff (p:Nat->Bool) (n z b i:Nat):Int:=if i<rN p n b then ofNat (snN p n z i) else 0
def Y7 (p:Nat->Bool) (n b i:Nat):Int:=if i<b then AG p n i else 0
theorem AiM (p:Nat->Bool) (n:Nat):Y7 p n n=AG p n:=by
 funext i;unfold Y7;split
 ·rfl
 ·rename_i h
  unfold AG;rw [show decide (i<n)=false by simpa using h];rfl
theorem Y6 {p:Nat->Bool} {n b:Nat} (hb:b<n):HI (Y7 p n b) b (ofNat (AX p n b))=Y7 p n (b+1):=by
 funext i;unfold HI Y7;by_cases hi:i=b
 ·subst hi
  rw [if_pos (Nat.lt_succ_self i),Fn hb];simp
 ·rw [show decide (i=b)=false by simpa using hi]
  simp only [cond_false];by_cases h1:i<b
  ·rw [if_pos h1,if_pos (by omega)]
  ·rw [if_neg h1,if_neg (by omega)]
theorem Va {p:Nat->Bool} {n z b:Nat} (h:AX p n b<rN p n b):Ff p n z (b+1)=Ff p n z b∧rN p n (b+1)=rN p n b:=by
 have:rN p n (b+1)=rN p n b:=by rw [rN,if_pos h]
 exact ⟨by funext i; unfold Ff; rw [this],this⟩
theorem Ys {p:Nat->Bool} {n z b:Nat} (h:AX p n b=rN p n b):As (rN p n b) (λi=>iV (Ff p n z b i)) (iV (ofNat (snN p n z (AX p n b))))=(λi=>iV (Ff p n z (b+1) i))∧rN p n (b+1)=rN p n b+1:=by
 have hr:rN p n (b+1)=rN p n b+1:=by rw [rN,if_neg (by omega)]
 refine ⟨?_,hr⟩;funext k;rw [Bi,show Nat.beq k (rN p n b)=decide (k=rN p n b) by rw [Bool.eq_iff_iff]; simp];unfold Ff;rw [hr];by_cases hk:k=rN p n b
 ·rw [hk,h]; simp
 ·by_cases h2:k<rN p n b
  ·have:k<rN p n b+1:=by omega
   simp [hk,h2,this]
  ·have:¬ k<rN p n b+1:=by omega
   simp [hk,h2,this]
theorem Aak {p:Nat->Bool} {n z b:Nat} (hb:b<n) (h:AX p n b<rN p n b):MJ (rN p n b) (Ff p n z b) (ofNat (snN p n z (AX p n b)))=ofNat (AX p n b):=by
 refine Qo h ?_ λk hk=>?_
 ·unfold Ff
  rw [if_pos h];simp [ieq]
 ·unfold Ff
  rw [if_pos (by omega)];have:=Age p n b (by omega) _ h;cases he:ieq (ofNat (snN p n z (AX p n b))) (ofNat (snN p n z k)) with
  | false=>rfl
  | true =>have he:=Int.ofNat.inj ((beq_iff_eq (α:=Int)).1 he);have:=Aaf (p:=p) (n:=n) (z:=z) (Nat.le_of_lt hk) this he.symm;omega
theorem Aal {p:Nat->Bool} {n z b:Nat} (hb:b<n) (h:AX p n b=rN p n b):MJ (rN p n b) (Ff p n z b) (ofNat (snN p n z (AX p n b))) = -1:=by
 refine TK λk hk=>?_;unfold Ff;rw [if_pos hk];cases he:ieq (ofNat (snN p n z (AX p n b))) (ofNat (snN p n z k)) with
 | false=>rfl
 | true =>have he:=Int.ofNat.inj ((beq_iff_eq (α:=Int)).1 he);have:=Aaf (p:=p) (n:=n) (z:=z) (show k <= AX p n b by omega) (NU (by omega)) he.symm;omega
theorem eq2 {α β γ:Type} (f:α->β->γ) {a a':α} {b b':β} (h:a=a') (k:b=b'):f a b=f a' b':=by rw [h,k]
theorem AcO {a n:Nat} (h:a<n) (hn:n <= 4611686018427387904):Al (ile 0 (Ag (wr .i64 (A5 (wr .i64 (Af (ofNat a) (ofNat n))) 1)) (ofNat n))) (ilt (Ag (wr .i64 (A5 (wr .i64 (Af (ofNat a) (ofNat n))) 1)) (ofNat n)) (ofNat n))=true:=by
 rw [Lh (by omega) (by omega)];exact Ao (Nat.mod_lt _ (by omega))
theorem W7 {z i n:Nat} (hz:z<n) (hi:i<n) (hn:n <= 4611686018427387904):Ag (wr .i64 (Af (ofNat z) (ofNat i))) (ofNat n)=ofNat ((z+i) % n):=by rw [D8 (by omega),CO]
theorem P2 {z i n:Nat} (hz:z<n) (hi:i<n) (hn:n <= 4611686018427387904):toN (Ag (wr .i64 (Af (ofNat z) (ofNat i))) (ofNat n))<n:=by
 rw [W7 hz hi hn];exact Nat.mod_lt _ (by omega)
theorem P3 {z i n:Nat} (hz:z<n) (hi:i<n) (hn:n <= 4611686018427387904):Al (ile 0 (Ag (wr .i64 (Af (ofNat z) (ofNat i))) (ofNat n))) (ilt (Ag (wr .i64 (Af (ofNat z) (ofNat i))) (ofNat n)) (ofNat n))=true:=by
 rw [W7 hz hi hn];exact Ao (Nat.mod_lt _ (by omega))
theorem Zu {z i n:Nat} (hz:z<n) (hi:i<n) (hn:n <= 4611686018427387904):Al (ile 0 (Ag (wr .i64 (A5 (wr .i64 (Af (Ag (wr .i64 (Af (ofNat z) (ofNat i))) (ofNat n)) (ofNat n))) 1)) (ofNat n))) (ilt (Ag (wr .i64 (A5 (wr .i64 (Af (Ag (wr .i64 (Af (ofNat z) (ofNat i))) (ofNat n)) (ofNat n))) 1)) (ofNat n)) (ofNat n))=true:=by
 rw [W7 hz hi hn];exact AcO (Nat.mod_lt _ (by omega)) hn
def lp86:Lp:=⟨bmK 97 0 [0,1,4,5,6,18,19],1,bmK 97 0 [0,1,4,5,6],1,4611686018427387905⟩
def S86 (c0:Nat) (p:E6->Bool) (n:Nat) (f:Nat->E6) (c:Int) (a:Unit) (j:Nat->V):St:=⟨jsV 97 0 j [(0,.sl 6 n (λi=>eV (f i))),(1,.fn c0 []),(4,.ref 0),(5,nV n),(6,iV 0),(18,nV n),(19,iV c)],[.row 3 1 0 Aa]⟩
noncomputable def B86 (L:LT):St->T (Ex×St):=λst=>A7 tab ⟨Ap tb53,L,Gl⟩ (Ar Tryz.f86 0) 0 st
def Zw (c0:Nat) (p:E6->Bool) (n:Nat) (f:Nat->E6) (i:Nat) (a:Unit):Ex×St:=(.ex 0,⟨jsV 97 0 Aa [(0,.sl 6 n (λi=>eV (f i))),(1,.fn c0 []),(4,.ref 0),(5,nV n),(6,nV i)],[.row 3 1 0 Aa]⟩)
def g86 (c0:Nat) (p:E6->Bool) (n:Nat) (f:Nat->E6) (i:Nat) (a:Unit):T ((Unit) ⊕ (Ex×St)):=.br (p (f (toN (Ag (wr .i64 (A5 (wr .i64 (Af (ofNat i) (ofNat n))) 1)) (ofNat n))))) (.leaf (.inr (Zw c0 p n f i a))) (.leaf (.inl ()))
def AbP (c0:Nat) (p:E6->Bool) (n:Nat) (f:Nat->E6) (a:Unit):Ex×St:=(.ex 0,⟨jsV 97 0 Aa [(0,.sl 6 n (λi=>eV (f i))),(1,.fn c0 []),(4,.ref 0),(5,nV n),(6,iV 0)],[.row 3 1 0 Aa]⟩)
section
variable (L:LT) (n:Nat) (f:Nat->E6)  (hn:n <= 4611686018427387904)
include L n f hn
theorem AnR {e:Ex×St} {a:Unit} {j:Nat->V} (h:Cy (g86 85 AK n f) (AbP 85 AK n f) n 0 a=some e):(A3 (B86 L) lp86 4611686018427387905 (S86 85 AK n f 0 a j)).sem=some (exR e) :=
 Cd Dx hn (λi a j r hi h=>DK.ok (L:=goR (S86 85 AK n f) exR i) (.k (ofNat_lt hi) <| .k (V5 hi) <| .k (AcO hi hn) <| .c (λh1=>.k h1 <| .l) λh1=>.k h1 <| .l) (by kernel_rfl) h) (λa j=>DK.ok (C:=.leaf (AbP 85 AK n f a)) (L:=exR) (.k (A1 (Nat.le_refl n)) .l) (by kernel_rfl) rfl) (Nat.zero_add _).symm (Nat.lt_succ_of_le hn) h
theorem AnQ {e:Ex×St} {a:Unit} {j:Nat->V} (h:Cy (g86 87 AJ n f) (AbP 87 AJ n f) n 0 a=some e):(A3 (B86 L) lp86 4611686018427387905 (S86 87 AJ n f 0 a j)).sem=some (exR e) :=
 Cd Dx hn (λi a j r hi h=>DK.ok (L:=goR (S86 87 AJ n f) exR i) (.k (ofNat_lt hi) <| .k (V5 hi) <| .k (AcO hi hn) <| .c (λh1=>.k h1 <| .l) λh1=>.k h1 <| .l) (by kernel_rfl) h) (λa j=>DK.ok (C:=.leaf (AbP 87 AJ n f a)) (L:=exR) (.k (A1 (Nat.le_refl n)) .l) (by kernel_rfl) rfl) (Nat.zero_add _).symm (Nat.lt_succ_of_le hn) h
end
def QG (c0:Nat) (p:E6->Bool) (n:Nat) (f:Nat->E6) (z:Nat) (c k:Int) (g:Nat->V):St:=⟨jsV 97 0 Aa [(0,.sl 6 n (λi=>eV (f i))),(1,.fn c0 []),(4,.ref 0),(5,nV n),(6,nV z),(8,.ref 1),(9,iV k),(37,nV n),(38,iV c)],[.row 3 1 0 Aa,.row 3 1 n g]⟩
def lp86_2:Lp:=⟨bmK 97 0 [0,1,4,5,6,8,9,37,38],2,bmK 97 0 [0,1,4,5,8],2,4611686018427387905⟩
def XY (c0:Nat) (p:E6->Bool) (n:Nat) (f:Nat->E6) (z:Nat) (c:Int) (a:Int×(Nat->Int)) (j:Nat->V):St:=⟨jsV 97 0 j [(0,.sl 6 n (λi=>eV (f i))),(1,.fn c0 []),(4,.ref 0),(5,nV n),(6,nV z),(8,.ref 1),(9,iV a.1),(37,nV n),(38,iV c)],[.row 3 1 0 Aa,.row 3 1 n (λi=>iV (a.2 i))]⟩
noncomputable def AgP (L:LT):St->T (Ex×St):=λst=>A7 tab ⟨Ap tb53,L,Gl⟩ (Ar Tryz.f86 2) 2 st
def X2 (c0:Nat) (p:E6->Bool) (n:Nat) (f:Nat->E6) (z:Nat) (i:Nat) (a:Int×(Nat->Int)):T ((Int×(Nat->Int)) ⊕ (Ex×St)):=.br (ilt 0 (ofNat i)) (.br (p (f (toN (Ag (wr .i64 (A5 (wr .i64 (Af (Ag (wr .i64 (Af (ofNat z) (ofNat i))) (ofNat n)) (ofNat n))) 1)) (ofNat n))))) (.leaf (.inl ((wr .i64 (Af a.1 1)),HI a.2 (toN (Ag (wr .i64 (Af (ofNat z) (ofNat i))) (ofNat n))) (wr .i64 (Af a.1 1))))) (.leaf (.inl (a.1,HI a.2 (toN (Ag (wr .i64 (Af (ofNat z) (ofNat i))) (ofNat n))) a.1)))) (.leaf (.inl (a.1,HI a.2 (toN (Ag (wr .i64 (Af (ofNat z) (ofNat i))) (ofNat n))) a.1)))
def LU (c0:Nat) (p:E6->Bool) (n:Nat) (f:Nat->E6) (z:Nat) (a:Int×(Nat->Int)):Ex×St:=(.ex 2,⟨jsV 97 0 Aa [(0,.sl 6 n (λi=>eV (f i))),(1,.fn c0 []),(4,.ref 0),(5,nV n),(8,.ref 1)],[.row 3 1 0 Aa,.row 3 1 n (λi=>iV (a.2 i))]⟩)
section
variable (L:LT) (n:Nat) (f:Nat->E6) (z:Nat) (hz:z<n) (hn:n <= 4611686018427387904)
include L n f z hz hn
theorem AiE {e:Ex×St} {a:Int×(Nat->Int)} {j:Nat->V} (h:Cy (X2 85 AK n f z) (LU 85 AK n f z) n 0 a=some e):(A3 (AgP L) lp86_2 4611686018427387905 (XY 85 AK n f z 0 a j)).sem=some (exR e) :=
 Cd Dx hn (λi a j r hi h=>DK.ok (L:=goR (XY 85 AK n f z) exR i) (.k (ofNat_lt hi) <| .k (V5 hi) <| .c (λh1=>.r 8 h1 <| .k (V5 hi) <| .k h1 <| .k (Zu hz hi hn) <| .r 3 h1 <| .c (λh2=>.k h2 <| .k (P3 hz hi hn) <| .k (decide_eq_true (P2 hz hi hn)) <| .e (congrArg (λz1=>(Ex.nm,QG 85 AK n f z (wr .i64 (Af (ofNat i) 1)) (wr .i64 (Af a.1 1)) z1)) (Cn a.2 (toN (Ag (wr .i64 (Af (ofNat z) (ofNat i))) (ofNat n))) (wr .i64 (Af a.1 1))))) λh2=>.k h2 <| .k (P3 hz hi hn) <| .k (decide_eq_true (P2 hz hi hn)) <| .e (congrArg (λz1=>(Ex.nm,QG 85 AK n f z (wr .i64 (Af (ofNat i) 1)) a.1 z1)) (Cn a.2 (toN (Ag (wr .i64 (Af (ofNat z) (ofNat i))) (ofNat n))) a.1))) λh1=>.r 12 h1 <| .k eF <| .k (P3 hz hi hn) <| .k (decide_eq_true (P2 hz hi hn)) <| .e (congrArg (λz1=>(Ex.nm,QG 85 AK n f z (wr .i64 (Af (ofNat i) 1)) a.1 z1)) (Cn a.2 (toN (Ag (wr .i64 (Af (ofNat z) (ofNat i))) (ofNat n))) a.1))) (by kernel_rfl) h) (λa j=>DK.ok (C:=.leaf (LU 85 AK n f z a)) (L:=exR) (.k (A1 (Nat.le_refl n)) .l) (by kernel_rfl) rfl) (Nat.zero_add _).symm (Nat.lt_succ_of_le hn) h
theorem AiD {e:Ex×St} {a:Int×(Nat->Int)} {j:Nat->V} (h:Cy (X2 87 AJ n f z) (LU 87 AJ n f z) n 0 a=some e):(A3 (AgP L) lp86_2 4611686018427387905 (XY 87 AJ n f z 0 a j)).sem=some (exR e) :=
 Cd Dx hn (λi a j r hi h=>DK.ok (L:=goR (XY 87 AJ n f z) exR i) (.k (ofNat_lt hi) <| .k (V5 hi) <| .c (λh1=>.r 8 h1 <| .k (V5 hi) <| .k h1 <| .k (Zu hz hi hn) <| .r 3 h1 <| .c (λh2=>.k h2 <| .k (P3 hz hi hn) <| .k (decide_eq_true (P2 hz hi hn)) <| .e (congrArg (λz1=>(Ex.nm,QG 87 AJ n f z (wr .i64 (Af (ofNat i) 1)) (wr .i64 (Af a.1 1)) z1)) (Cn a.2 (toN (Ag (wr .i64 (Af (ofNat z) (ofNat i))) (ofNat n))) (wr .i64 (Af a.1 1))))) λh2=>.k h2 <| .k (P3 hz hi hn) <| .k (decide_eq_true (P2 hz hi hn)) <| .e (congrArg (λz1=>(Ex.nm,QG 87 AJ n f z (wr .i64 (Af (ofNat i) 1)) a.1 z1)) (Cn a.2 (toN (Ag (wr .i64 (Af (ofNat z) (ofNat i))) (ofNat n))) a.1))) λh1=>.r 12 h1 <| .k eF <| .k (P3 hz hi hn) <| .k (decide_eq_true (P2 hz hi hn)) <| .e (congrArg (λz1=>(Ex.nm,QG 87 AJ n f z (wr .i64 (Af (ofNat i) 1)) a.1 z1)) (Cn a.2 (toN (Ag (wr .i64 (Af (ofNat z) (ofNat i))) (ofNat n))) a.1))) (by kernel_rfl) h) (λa j=>DK.ok (C:=.leaf (LU 87 AJ n f z a)) (L:=exR) (.k (A1 (Nat.le_refl n)) .l) (by kernel_rfl) rfl) (Nat.zero_add _).symm (Nat.lt_succ_of_le hn) h
end
def AgH (n:Nat) (g:Nat->Int) (c:Int) (r:Nat) (s o:Nat->V):St:=⟨jsV 97 0 Aa [(4,.ref 0),(8,.ref 1),(12,.ref 2),(13,.ref 3),(70,nV n),(71,iV c)],[.row 3 1 0 Aa,.row 3 1 n (λi=>iV (g i)),.row 3 1 r s,.row 3 1 n o]⟩
def Abf:Lp:=⟨bmK 97 0 [4,8,12,13,70,71],4,bmK 97 0 [13],4,4611686018427387905⟩
def AgI (n:Nat) (g:Nat->Int) (c:Int) (a:Nat×(Nat->Int)×(Nat->Int)) (j:Nat->V):St:=⟨jsV 97 0 j [(4,.ref 0),(8,.ref 1),(12,.ref 2),(13,.ref 3),(70,nV n),(71,iV c)],[.row 3 1 0 Aa,.row 3 1 n (λi=>iV (g i)),.row 3 1 a.1 (λi=>iV (a.2.1 i)),.row 3 1 n (λi=>iV (a.2.2 i))]⟩
noncomputable def Anj (L:LT):St->T (Ex×St):=λst=>A7 tab ⟨Ap tb53,L,Gl⟩ (Ar Tryz.f86 4) 4 st
noncomputable def AbO (n:Nat) (g:Nat->Int) (i:Nat) (a:Nat×(Nat->Int)×(Nat->Int)):T ((Nat×(Nat->Int)×(Nat->Int)) ⊕ (Ex×St)):=.br (Ea a.1) (.br (ilt (MJ a.1 a.2.1 (g i)) 0) (.br (Ba a.1 1 8) (.leaf (.inl ((AS a.1 1),HI a.2.1 a.1 (g i),HI a.2.2 i (ofNat a.1)))) .fail) (.leaf (.inl (a.1,a.2.1,HI a.2.2 i (MJ a.1 a.2.1 (g i)))))) .fail
def RO (n:Nat) (g:Nat->Int) (a:Nat×(Nat->Int)×(Nat->Int)):Ex×St:=(.ex 4,⟨jsV 97 0 Aa [(13,.ref 3)],[.row 3 1 0 Aa,.row 3 1 n (λi=>iV (g i)),.row 3 1 a.1 (λi=>iV (a.2.1 i)),.row 3 1 n (λi=>iV (a.2.2 i))]⟩)
theorem Agf (L:LT) (n:Nat) (g:Nat->Int)  (hn:n <= 4611686018427387904) {e:Ex×St} {a:Nat×(Nat->Int)×(Nat->Int)} {j:Nat->V} (h:Cy (AbO n g) (RO n g) n 0 a=some e):(A3 (Anj L) Abf 4611686018427387905 (AgI n g 0 a j)).sem=some (exR e) :=
 Cd Dx hn (λi a j r hi h=>DK.ok (L:=goR (AgI n g) exR i) (.k (ofNat_lt hi) <| .k (Ao hi) <| .k (decide_eq_true hi) <| .k (eL a.1) <| .g λh1=>.k h1 <| .c (λh2=>.k h2 <| .k (Ao hi) <| .k (decide_eq_true hi) <| .g λh3=>.k h3 <| .k (Ao hi) <| .k (decide_eq_true hi) <| .e (eq2 (λz w=>(Ex.nm,AgH n g (wr .i64 (Af (ofNat i) 1)) (AS a.1 1) z w)) (Cn a.2.1 a.1 (g i)) (Cn a.2.2 i (ofNat a.1)))) λh2=>.k h2 <| .k (Ao hi) <| .k (decide_eq_true hi) <| .e (congrArg (λw=>(Ex.nm,AgH n g (wr .i64 (Af (ofNat i) 1)) a.1 (λq=>iV (a.2.1 q)) w)) (Cn a.2.2 i (MJ a.1 a.2.1 (g i))))) (by kernel_rfl) h) (λa j=>DK.ok (C:=.leaf (RO n g a)) (L:=exR) (.k (A1 (Nat.le_refl n)) .l) (by kernel_rfl) rfl) (Nat.zero_add _).symm (Nat.lt_succ_of_le hn) h
def MG:List (Nat×Lp×List (Nat×(Nat->V))):=[(0,lp86,[]),(2,lp86_2,[]),(4,Abf,[(2,λ_=>iV 0)])]
section
variable {c0:Nat} {p:E6->Bool} {n:Nat} {f:Nat->E6} {z:Nat} (hn:n <= 4611686018427387904)
include hn
theorem Ajb (h0:0<n):∀ d i,i+d=n->(∀ k,k<i->p (f ((k+(n-1)) % n))=false)->Cy (g86 c0 p n f) (AbP c0 p n f) d i ()=some (Zw c0 p n f (Fd (λk=>p (f k)) n) ())
 | 0,i,h,hb=>by
  obtain rfl:i=n:=by omega
  rw [Wz (p:=λk=>p (f k)) hb];rfl
 | d+1,i,h,hb=>by
  have hl:i<n:=by omega
  have e:(g86 c0 p n f i ()).sem=sel (p (f ((i+(n-1)) % n))) (some (.inr (Zw c0 p n f i ()))) (some (.inl ())):=by
   unfold g86;rw [Lh (by omega) (by omega)];rfl
  rw [Cy,e];cases hp:p (f ((i+(n-1)) % n)) with
  | true =>rw [AcQ (p:=λk=>p (f k)) hl hp hb];rfl
  | false =>
   exact Ajb h0 d (i+1) (by omega) λk hk=>by
    by_cases hki:k=i
    ·rw [hki]; exact hp
    ·exact hb k (by omega)
theorem Aja (hz:z<n):∀ d b,b+d=n->Cy (X2 c0 p n f z) (LU c0 p n f z) d b (ofNat (An (F3 (λk=>p (f k)) n z) (b-1)),gN (λk=>p (f k)) n z b)=some (LU c0 p n f z (ofNat (An (F3 (λk=>p (f k)) n z) (n-1)),gN (λk=>p (f k)) n z n))
 | 0,b,h=>by
  rw [<- h];rfl
 | d+1,b,h=>by
  have hl:b<n:=by omega
  have next:=Aja hz d (b+1) (by omega)
  have hs:=Aff (p:=λk=>p (f k)) hz hl;rw [show b+1-1=b by omega,<- hs] at next
  rw [Cy];unfold X2;rw [W7 hz hl hn];cases b with
  | zero=>exact next
  | succ b =>
   have hc:=Be (F3 (λk=>p (f k)) n z) b;have hm:=Nat.mod_lt (z+(b+1)) (show 0<n by omega);rw [Lh (by omega) (by omega),Zn hz (by omega)];rw [show b+1-1=b by omega,show toN (ofNat ((z+b) % n))=(z+b) % n from rfl];rw [show ilt 0 (ofNat (b+1))=true by rw [show (0:Int)=ofNat 0 from rfl,BV]; simp];cases hp:p (f ((z+b) % n)) with
   | true =>
    rw [MQ (show An (F3 (λk=>p (f k)) n z) b<n by omega) hn];rw [Bx (p:=F3 (λk=>p (f k)) n z) (i:=b) hp] at next
    exact next
   | false =>
    rw [BU (p:=F3 (λk=>p (f k)) n z) (i:=b) hp] at next
    exact next
end
theorem UZ {p:Nat->Bool} {n z b:Nat} (h:AX p n b=rN p n b):HI (Ff p n z b) (rN p n b) (ofNat (snN p n z (AX p n b)))=Ff p n z (b+1)∧rN p n (b+1)=rN p n b+1:=by
 obtain ⟨e1,e2⟩:=Ys (z:=z) h;refine ⟨?_,e2⟩;have e:=(Cn (Ff p n z b) (rN p n b) (ofNat (snN p n z (AX p n b)))).symm.trans e1;funext i;have:=congrFun e i;simpa [iV] using this
theorem AiZ {p:Nat->Bool} {n:Nat} (hn:n * 8 <= 140737488355328) {z:Nat} {g:Nat->Int} (hg:∀ i,i<n->g i=ofNat (snN p n z (AX p n i))):∀ d b,b+d=n ->
  Cy (AbO n g) (RO n g) d b (rN p n b,Ff p n z b,Y7 p n b)=some (RO n g (rN p n n,Ff p n z n,AG p n))
 | 0,b,h=>by
  rw [<- AiM p n,<- h];rfl
 | d+1,b,h=>by
  have hl:b<n:=by omega
  have hr:=WU p n b;have h8:Ea (rN p n b)=true:=by
   unfold Ea;simp;omega
  have next:=AiZ hn hg d (b+1) (by omega)
  rw [Cy];unfold AbO;dsimp only;rw [h8,hg b hl];rw [<- Y6 hl] at next
  rcases Nat.lt_or_ge (AX p n b) (rN p n b) with hc | hc
  ·obtain ⟨e1,e2⟩:=Va (z:=z) hc
   rw [Aak hl hc,show ilt (ofNat (AX p n b)) 0=false by simp [ilt]];rw [e1,e2] at next
   exact next
  ·have hc:AX p n b=rN p n b:=Nat.le_antisymm (MZ p n b hl) hc
   obtain ⟨e1,e2⟩:=UZ (z:=z) hc;rw [Aal hl hc,BS (by omega)];rw [<- e1,e2] at next
   rw [hc] at next ⊢
   exact next
theorem Aeu {n:Nat} {f:Nat->E6} (hp:0<n) (h8:n * 8 <= 140737488355328) (hm:DA 8 (ofNat n) (ofNat n)=true) :
  (Az (Ak tab (cxA Gl tb53 MG) Tryz.f86 [AQ n f,.fn 85 []] [])).sem=some (.ref 0,[.row 3 1 n λk=>iV (AG (λk=>AK (f k)) n k)]):=by
 have hn:n <= 4611686018427387904:=by omega
 have hz:=Uv (λk=>AK (f k)) hp;have l0:=Ajb (c0:=85) (p:=AK) (f:=f) hn hp n 0 (Nat.zero_add n) λk hk=>absurd hk (Nat.not_lt_zero _);have l2:=Aja (c0:=85) (p:=AK) (f:=f) hn hz n 0 (Nat.zero_add n);have l4:=AiZ h8 (λi hi=>AbM (Pa (λk=>AK (f k)) hp) hi) n 0 (Nat.zero_add n);rw [Am5] at l2;exact DK.of (C:=.leaf _) rfl (.a (AnR (askL MG) n f hn (j:=λ_=>.und) l0) <| .k hm <| .a (AiE (askL MG) n f _ hz hn (j:=λ_=>.und) l2) <| .k hm <| .a (Agf (askL MG) n _ hn (j:=λ_=>.und) l4) <| .l) (by kernel_rfl)
theorem Aet {n:Nat} {f:Nat->E6} (hp:0<n) (h8:n * 8 <= 140737488355328) (hm:DA 8 (ofNat n) (ofNat n)=true) :
  (Az (Ak tab (cxA Gl tb53 MG) Tryz.f86 [AQ n f,.fn 87 []] [])).sem=some (.ref 0,[.row 3 1 n λk=>iV (AG (λk=>AJ (f k)) n k)]):=by
 have hn:n <= 4611686018427387904:=by omega
 have hz:=Uv (λk=>AJ (f k)) hp;have l0:=Ajb (c0:=87) (p:=AJ) (f:=f) hn hp n 0 (Nat.zero_add n) λk hk=>absurd hk (Nat.not_lt_zero _);have l2:=Aja (c0:=87) (p:=AJ) (f:=f) hn hz n 0 (Nat.zero_add n);have l4:=AiZ h8 (λi hi=>AbM (Pa (λk=>AJ (f k)) hp) hi) n 0 (Nat.zero_add n);rw [Am5] at l2;exact DK.of (C:=.leaf _) rfl (.a (AnQ (askL MG) n f hn (j:=λ_=>.und) l0) <| .k hm <| .a (AiD (askL MG) n f _ hz hn (j:=λ_=>.und) l2) <| .k hm <| .a (Agf (askL MG) n _ hn (j:=λ_=>.und) l4) <| .l) (by kernel_rfl)
noncomputable def AiW:List V->AR
 | [v,.fn g []]=>apL v λn f=>.br (Al (ilt 0 (ofNat n)) (Al (Ea n) (DA 8 (ofNat n) (ofNat n)))) (match Nat.beq g 85,Nat.beq g 87 with
  | true,_=>.leaf (.ref 0,[.row 3 1 n λk=>iV (AG (λk=>AK (f k)) n k)])
  | _,true=>.leaf (.ref 0,[.row 3 1 n λk=>iV (AG (λk=>AJ (f k)) n k)])
  | _,_=>.fail) .fail
 | _=>.fail
theorem p53:Ax Tryz.prog Gl 86 AiW:=by
 refine Am A8 mixed Tryz.func86 (by kernel_rfl) (by kernel_rfl) λvs v h' h=>?_;unfold AiW at h;split at h
 ·rename_i u g
  obtain ⟨n,f,ha,h1⟩:=Cl h;obtain ⟨h8,hq⟩:=Ad h1;have h8:ilt 0 (ofNat n)=true∧Ea n=true∧DA 8 (ofNat n) (ofNat n)=true:=by simpa [Al] using h8
  obtain ⟨h9,h8,hm⟩:=h8;have h9:0<n:=by rw [show (0:Int)=ofNat 0 from rfl,BV] at h9; simpa using h9
  have h8':n * 8 <= 140737488355328:=of_decide_eq_true h8;have hA:Bf [u,.fn g []] [AQ n f,.fn g []]:=λS w cs hv=>by
   obtain ⟨c,l,rfl,q1,q2⟩:=hv;exact ⟨c,l,rfl,ha S w c q1,q2⟩
  cases h52:Nat.beq g 85 with
  | true =>rw [h52] at hq;have he:=Nat.eq_of_beq_eq_true h52;subst he;have:=Ac hq;simp only [Prod.mk.injEq] at this;obtain ⟨rfl,rfl⟩:=this;have hx:=FK tb53_ok MG (G:=Gl);exact ⟨_,cxA Gl tb53 MG,_,hA,rfl,hx.1,hx.2,Aeu h9 h8' hm,Aw.refl _⟩
  | false =>
   rw [h52] at hq;cases h54:Nat.beq g 87 with
   | true =>rw [h54] at hq;have he:=Nat.eq_of_beq_eq_true h54;subst he;have:=Ac hq;simp only [Prod.mk.injEq] at this;obtain ⟨rfl,rfl⟩:=this;have hx:=FK tb53_ok MG (G:=Gl);exact ⟨_,cxA Gl tb53 MG,_,hA,rfl,hx.1,hx.2,Aet h9 h8' hm,Aw.refl _⟩
   | false =>rw [h54] at hq;cases hq
 ·cases h
end Go.Proofs.YtkgdhhieomndeaaGreatDoor.Sh
