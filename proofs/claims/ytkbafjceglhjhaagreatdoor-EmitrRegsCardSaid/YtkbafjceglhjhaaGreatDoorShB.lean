/-
  Layer 7: the program's numbers of threads and of locations (met) are the document's parts. No conditions.
-/
import Derived.Test.YtkbafjceglhjhaaGreatDoorShBa
import Derived.Test.YtkbafjceglhjhaaGreatDoorEdX
namespace Go.Proofs.YtkbafjceglhjhaaGreatDoor.Sh
open Go.Sy Ed
open Int (ofNat)
noncomputable def tb53:AM:=(139,BN λe=>bV (A2 e))::(141,BN λe=>bV (A7 e))::(178,Uz)::[]
theorem tb53_ok:Ar Tryz.prog Gl tb53:=.cons p52 <| .cons p54 <| .cons p92 .nil
theorem Bz {a n:Nat} (h:a<2 * n):a % n=if a<n then a else a-n:=by
 split
 ·rename_i h1; exact Nat.mod_eq_of_lt h1
 ·rename_i h1
  have h1:n <= a:=Nat.le_of_not_lt h1;rw [Nat.mod_eq_sub_mod h1,Nat.mod_eq_of_lt (by omega)]
theorem AgT {n z b:Nat} (hz:z<n) (hb:b<n):posN n z ((z+b) % n)=b:=by
 unfold posN;rw [Bz (a:=z+b) (by omega)];split
 ·rw [Bz (by omega)]; split <;> omega
 ·rw [Bz (by omega)]; split <;> omega
theorem AbT {n z i:Nat} (hz:z<n) (hi:i<n):(z+posN n z i) % n=i:=by
 unfold posN;rw [Bz (a:=i+(n-z)) (by omega)];split
 ·rw [Bz (by omega)]; split <;> omega
 ·rw [Bz (by omega)]; split <;> omega
theorem XG {n z b:Nat} (hz:z<n) (hb:b<n):((z+(b+1)) % n+(n-1)) % n=(z+b) % n:=by
 rcases Nat.lt_or_ge (b+1) n with h | h
 ·rw [Bz (a:=z+(b+1)) (by omega),Bz (a:=z+b) (by omega)]
  split <;> split <;> (rw [Bz (by omega)]; split <;> omega)
 ·have:b+1=n:=by omega
  rw [this,Nat.add_mod_right,Nat.mod_eq_of_lt hz];rw [Bz (by omega),Bz (a:=z+b) (by omega)];split <;> split <;> omega
theorem Ky {a n:Nat} (hn:0<n) (h:a+n <= 9223372036854775807):An (wr .i64 (Bw (wr .i64 (Ah (ofNat a) (ofNat n))) 1)) (ofNat n)=ofNat ((a+(n-1)) % n):=by
 rw [Fv h];have:wr .i64 (Bw (ofNat (a+n)) 1)=ofNat (a+(n-1)):=by
  have:ofNat (a+n)=ofNat (a+(n-1)+1):=by congr 1; omega
  rw [this];unfold wr Bw IntKind.wrap;simp [IntKind.bits,IntKind.signed];omega
 rw [this,DD]
def EY (p:Nat->Bool) (n:Nat):Nat:=match (List.range n).find? λi=>p ((i+(n-1)) % n) with
 | some z=>z
 | none=>0
theorem AaC {p:Nat->Bool} {n i:Nat} (hi:i<n) (h:p ((i+(n-1)) % n)=true) (hb:∀ k,k<i->p ((k+(n-1)) % n)=false):EY p n=i:=by
 unfold EY;have:(List.range n).find? (λi=>p ((i+(n-1)) % n))=some i:=by
  rw [List.find?_range_eq_some];exact ⟨h,by simpa using hi,λj hj=>by rw [hb j hj]; rfl⟩
 rw [this]
theorem UW {p:Nat->Bool} {n:Nat} (hb:∀ k,k<n->p ((k+(n-1)) % n)=false):EY p n=0:=by
 unfold EY;have:(List.range n).find? (λi=>p ((i+(n-1)) % n))=none:=by
  rw [List.find?_eq_none];intro k hk;rw [hb k (by simpa using hk)];simp
 rw [this]
theorem NT (p:Nat->Bool) {n:Nat} (hn:0<n):Begin p n (EY p n):=by
 cases h:(List.range n).find? (λi=>p ((i+(n-1)) % n)) with
 | none =>
  have hz:EY p n=0:=by unfold EY; rw [h]
  rw [hz];rw [List.find?_eq_none] at h;refine .none λk hk=>?_;have:=h ((k+1) % n) (by simpa using Nat.mod_lt _ hn);rw [show ((k+1) % n+(n-1)) % n=k by
   rw [Bz (a:=k+1) (by omega)];split <;> (rw [Bz (by omega)]; split <;> omega)] at this
  simpa using this
 | some z =>
  have hz:EY p n=z:=by unfold EY; rw [h]
  rw [hz];rw [List.find?_range_eq_some] at h;obtain ⟨h1,h2,h3⟩:=h;have h2:z<n:=by simpa using h2
  have at':∀ k,0<k->k<n->(k+(n-1)) % n=k-1:=λk h0 hk=>by
   rw [Bz (by omega)]; split <;> omega
  have at0:(0+(n-1)) % n=n-1:=by rw [Nat.zero_add,Nat.mod_eq_of_lt (by omega)]
  rcases Nat.eq_zero_or_pos z with h0 | h0
  ·subst h0
   rw [at0] at h1;exact .last hn h1
  ·rw [at' z h0 h2] at h1
   refine .first h0 h2 h1 (λk hk=>?_) ?_
   ·have:=h3 (k+1) (by omega)
    rw [at' (k+1) (by omega) (by omega)] at this;simpa using this
   ·have:=h3 0 h0
    rw [at0] at this;simpa using this
theorem Tf (p:Nat->Bool) {n:Nat} (hn:0<n):EY p n<n:=by
 have h:=NT p hn;generalize EY p n=z at h;cases h with
 | none _=>exact hn
 | last _ _=>exact hn
 | first _ h _ _ _=>exact h
def gN (p:Nat->Bool) (n z b i:Nat):Int:=if i<n∧posN n z i<b then ofNat (Ai (Fx p n z) (posN n z i)) else 0
theorem Akn (p:Nat->Bool) (n z:Nat):gN p n z 0=λ_=>0:=by
 funext i;simp [gN]
theorem Ada {p:Nat->Bool} {n z b:Nat} (hz:z<n) (hb:b<n):GN (gN p n z b) ((z+b) % n) (ofNat (Ai (Fx p n z) b))=gN p n z (b+1):=by
 funext i;unfold GN;by_cases hi:i=(z+b) % n
 ·subst hi
  rw [show decide ((z+b) % n=(z+b) % n)=true by simp];simp only [cond_true];unfold gN;rw [AgT hz hb,if_pos ⟨Nat.mod_lt _ (by omega),by omega⟩]
 ·rw [show decide (i=(z+b) % n)=false by simpa using hi]
  simp only [cond_false];unfold gN;by_cases hin:i<n
  ·have hp:posN n z i ≠ b:=λhe=>hi (by rw [<- he,AbT hz hin])
   by_cases h1:posN n z i<b
   ·rw [if_pos ⟨hin,h1⟩,if_pos ⟨hin,by omega⟩]
   ·rw [if_neg (λh=>h1 h.2),if_neg (λh=>by have:=h.2; omega)]
  ·rw [if_neg (λh=>hin h.1),if_neg (λh=>hin h.1)]
theorem ZR {p:Nat->Bool} {n z i:Nat} (hb:Begin p n z) (hi:i<n):gN p n z n i=ofNat (snN p n z (AX p n i)):=by
 unfold gN;rw [if_pos ⟨hi,show (i+(n-z)) % n<n from Nat.mod_lt _ (by omega)⟩,AbU hb hi]
def EZ (p:Nat->Bool) (n z b i:Nat):Int:=if i<rN p n b then ofNat (snN p n z i) else 0
def Xf (p:Nat->Bool) (n b i:Nat):Int:=if i<b then Az p n i else 0
theorem AgW (p:Nat->Bool) (n:Nat):Xf p n n=Az p n:=by
 funext i;unfold Xf;split
 ·rfl
 ·rename_i h
  unfold Az;rw [show decide (i<n)=false by simpa using h];rfl
theorem Xe {p:Nat->Bool} {n b:Nat} (hb:b<n):GN (Xf p n b) b (ofNat (AX p n b))=Xf p n (b+1):=by
 funext i;unfold GN Xf;by_cases hi:i=b
 ·subst hi
  rw [if_pos (Nat.lt_succ_self i),Fe hb];simp
 ·rw [show decide (i=b)=false by simpa using hi]
  simp only [cond_false];by_cases h1:i<b
  ·rw [if_pos h1,if_pos (by omega)]
  ·rw [if_neg h1,if_neg (by omega)]
theorem TL {p:Nat->Bool} {n z b:Nat} (h:AX p n b<rN p n b):EZ p n z (b+1)=EZ p n z b∧rN p n (b+1)=rN p n b:=by
 have:rN p n (b+1)=rN p n b:=by rw [rN,if_pos h]
 exact ⟨by funext i; unfold EZ; rw [this],this⟩
theorem WS {p:Nat->Bool} {n z b:Nat} (h:AX p n b=rN p n b):Bb (rN p n b) (λi=>iV (EZ p n z b i)) (iV (ofNat (snN p n z (AX p n b))))=(λi=>iV (EZ p n z (b+1) i))∧rN p n (b+1)=rN p n b+1:=by
 have hr:rN p n (b+1)=rN p n b+1:=by rw [rN,if_neg (by omega)]
 refine ⟨?_,hr⟩;funext k;rw [BB,show Nat.beq k (rN p n b)=decide (k=rN p n b) by rw [Bool.eq_iff_iff]; simp];unfold EZ;rw [hr];by_cases hk:k=rN p n b
 ·rw [hk,h]; simp
 ·by_cases h2:k<rN p n b
  ·have:k<rN p n b+1:=by omega
   simp [hk,h2,this]
  ·have:¬ k<rN p n b+1:=by omega
   simp [hk,h2,this]
theorem Y3 {p:Nat->Bool} {n z b:Nat} (hb:b<n) (h:AX p n b<rN p n b):LS (rN p n b) (EZ p n z b) (ofNat (snN p n z (AX p n b)))=ofNat (AX p n b):=by
 refine OY h ?_ λk hk=>?_
 ·unfold EZ
  rw [if_pos h];simp [ieq]
 ·unfold EZ
  rw [if_pos (by omega)];have:=AdW p n b (by omega) _ h;cases he:ieq (ofNat (snN p n z (AX p n b))) (ofNat (snN p n z k)) with
  | false=>rfl
  | true =>have he:=Int.ofNat.inj ((beq_iff_eq (α:=Int)).1 he);have:=Yw (p:=p) (n:=n) (z:=z) (Nat.le_of_lt hk) this he.symm;omega
theorem Y4 {p:Nat->Bool} {n z b:Nat} (hb:b<n) (h:AX p n b=rN p n b):LS (rN p n b) (EZ p n z b) (ofNat (snN p n z (AX p n b))) = -1:=by
 refine Sz λk hk=>?_;unfold EZ;rw [if_pos hk];cases he:ieq (ofNat (snN p n z (AX p n b))) (ofNat (snN p n z k)) with
 | false=>rfl
 | true =>have he:=Int.ofNat.inj ((beq_iff_eq (α:=Int)).1 he);have:=Yw (p:=p) (n:=n) (z:=z) (show k <= AX p n b by omega) (JJ (by omega)) he.symm;omega
theorem eq2 {α β γ:Type} (f:α->β->γ) {a a':α} {b b':β} (h:a=a') (k:b=b'):f a b=f a' b':=by rw [h,k]
theorem Te {a n:Nat} (h:a<n) (hn:n <= 4611686018427387904):Aj (ile 0 (An (wr .i64 (Bw (wr .i64 (Ah (ofNat a) (ofNat n))) 1)) (ofNat n))) (ilt (An (wr .i64 (Bw (wr .i64 (Ah (ofNat a) (ofNat n))) 1)) (ofNat n)) (ofNat n))=true:=by
 rw [Ky (by omega) (by omega)];exact Ae (Nat.mod_lt _ (by omega))
theorem Re {z i n:Nat} (hz:z<n) (hi:i<n) (hn:n <= 4611686018427387904):An (wr .i64 (Ah (ofNat z) (ofNat i))) (ofNat n)=ofNat ((z+i) % n):=by rw [Fv (by omega),DD]
theorem G0 {z i n:Nat} (hz:z<n) (hi:i<n) (hn:n <= 4611686018427387904):toN (An (wr .i64 (Ah (ofNat z) (ofNat i))) (ofNat n))<n:=by
 rw [Re hz hi hn];exact Nat.mod_lt _ (by omega)
theorem G1 {z i n:Nat} (hz:z<n) (hi:i<n) (hn:n <= 4611686018427387904):Aj (ile 0 (An (wr .i64 (Ah (ofNat z) (ofNat i))) (ofNat n))) (ilt (An (wr .i64 (Ah (ofNat z) (ofNat i))) (ofNat n)) (ofNat n))=true:=by
 rw [Re hz hi hn];exact Ae (Nat.mod_lt _ (by omega))
theorem XO {z i n:Nat} (hz:z<n) (hi:i<n) (hn:n <= 4611686018427387904):Aj (ile 0 (An (wr .i64 (Bw (wr .i64 (Ah (An (wr .i64 (Ah (ofNat z) (ofNat i))) (ofNat n)) (ofNat n))) 1)) (ofNat n))) (ilt (An (wr .i64 (Bw (wr .i64 (Ah (An (wr .i64 (Ah (ofNat z) (ofNat i))) (ofNat n)) (ofNat n))) 1)) (ofNat n)) (ofNat n))=true:=by
 rw [Re hz hi hn];exact Te (Nat.mod_lt _ (by omega)) hn
def lp86:Lp:=⟨bmK 97 0 [0,1,4,5,6,18,19],1,bmK 97 0 [0,1,4,5,6],1,4611686018427387905⟩
def S86 (c0:Nat) (p:E6->Bool) (n:Nat) (f:Nat->E6) (c:Int) (a:Unit) (j:Nat->V):St:=⟨jsV 97 0 j [(0,.sl 6 n (λi=>eV (f i))),(1,.fn c0 []),(4,.ref 0),(5,nV n),(6,iV 0),(18,nV n),(19,iV c)],[.row 3 1 0 Ab]⟩
noncomputable def B86 (L:LT):St->T (Ex×St):=λst=>AL tab ⟨A0 tb53,L,Gl⟩ (A3 Tryz.f140 0) 0 st
def XP (c0:Nat) (p:E6->Bool) (n:Nat) (f:Nat->E6) (i:Nat) (a:Unit):Ex×St:=(.ex 0,⟨jsV 97 0 Ab [(0,.sl 6 n (λi=>eV (f i))),(1,.fn c0 []),(4,.ref 0),(5,nV n),(6,nV i)],[.row 3 1 0 Ab]⟩)
def g86 (c0:Nat) (p:E6->Bool) (n:Nat) (f:Nat->E6) (i:Nat) (a:Unit):T ((Unit) ⊕ (Ex×St)):=.br (p (f (toN (An (wr .i64 (Bw (wr .i64 (Ah (ofNat i) (ofNat n))) 1)) (ofNat n))))) (.leaf (.inr (XP c0 p n f i a))) (.leaf (.inl ()))
def ZW (c0:Nat) (p:E6->Bool) (n:Nat) (f:Nat->E6) (a:Unit):Ex×St:=(.ex 0,⟨jsV 97 0 Ab [(0,.sl 6 n (λi=>eV (f i))),(1,.fn c0 []),(4,.ref 0),(5,nV n),(6,iV 0)],[.row 3 1 0 Ab]⟩)
section
variable (L:LT) (n:Nat) (f:Nat->E6)  (hn:n <= 4611686018427387904)
include L n f hn
theorem Alk {e:Ex×St} {a:Unit} {j:Nat->V} (h:BV (g86 139 A2 n f) (ZW 139 A2 n f) n 0 a=some e):(A4 (B86 L) lp86 4611686018427387905 (S86 139 A2 n f 0 a j)).sem=some (exR e) :=
 AD Bq hn (λi a j r hi h=>DK.ok (L:=goR (S86 139 A2 n f) exR i) (.k (ofNat_lt hi) <| .k (JK hi) <| .k (Te hi hn) <| .c (λh1=>.k h1 <| .l) λh1=>.k h1 <| .l) (by kernel_rfl) h) (λa j=>DK.ok (C:=.leaf (ZW 139 A2 n f a)) (L:=exR) (.k (Au (Nat.le_refl n)) .l) (by kernel_rfl) rfl) (Nat.zero_add _).symm (Nat.lt_succ_of_le hn) h
theorem Alj {e:Ex×St} {a:Unit} {j:Nat->V} (h:BV (g86 141 A7 n f) (ZW 141 A7 n f) n 0 a=some e):(A4 (B86 L) lp86 4611686018427387905 (S86 141 A7 n f 0 a j)).sem=some (exR e) :=
 AD Bq hn (λi a j r hi h=>DK.ok (L:=goR (S86 141 A7 n f) exR i) (.k (ofNat_lt hi) <| .k (JK hi) <| .k (Te hi hn) <| .c (λh1=>.k h1 <| .l) λh1=>.k h1 <| .l) (by kernel_rfl) h) (λa j=>DK.ok (C:=.leaf (ZW 141 A7 n f a)) (L:=exR) (.k (Au (Nat.le_refl n)) .l) (by kernel_rfl) rfl) (Nat.zero_add _).symm (Nat.lt_succ_of_le hn) h
end
def Px (c0:Nat) (p:E6->Bool) (n:Nat) (f:Nat->E6) (z:Nat) (c k:Int) (g:Nat->V):St:=⟨jsV 97 0 Ab [(0,.sl 6 n (λi=>eV (f i))),(1,.fn c0 []),(4,.ref 0),(5,nV n),(6,nV z),(8,.ref 1),(9,iV k),(37,nV n),(38,iV c)],[.row 3 1 0 Ab,.row 3 1 n g]⟩
def lp86_2:Lp:=⟨bmK 97 0 [0,1,4,5,6,8,9,37,38],2,bmK 97 0 [0,1,4,5,8],2,4611686018427387905⟩
def W8 (c0:Nat) (p:E6->Bool) (n:Nat) (f:Nat->E6) (z:Nat) (c:Int) (a:Int×(Nat->Int)) (j:Nat->V):St:=⟨jsV 97 0 j [(0,.sl 6 n (λi=>eV (f i))),(1,.fn c0 []),(4,.ref 0),(5,nV n),(6,nV z),(8,.ref 1),(9,iV a.1),(37,nV n),(38,iV c)],[.row 3 1 0 Ab,.row 3 1 n (λi=>iV (a.2 i))]⟩
noncomputable def Afe (L:LT):St->T (Ex×St):=λst=>AL tab ⟨A0 tb53,L,Gl⟩ (A3 Tryz.f140 2) 2 st
def Wb (c0:Nat) (p:E6->Bool) (n:Nat) (f:Nat->E6) (z:Nat) (i:Nat) (a:Int×(Nat->Int)):T ((Int×(Nat->Int)) ⊕ (Ex×St)):=.br (ilt 0 (ofNat i)) (.br (p (f (toN (An (wr .i64 (Bw (wr .i64 (Ah (An (wr .i64 (Ah (ofNat z) (ofNat i))) (ofNat n)) (ofNat n))) 1)) (ofNat n))))) (.leaf (.inl ((wr .i64 (Ah a.1 1)),GN a.2 (toN (An (wr .i64 (Ah (ofNat z) (ofNat i))) (ofNat n))) (wr .i64 (Ah a.1 1))))) (.leaf (.inl (a.1,GN a.2 (toN (An (wr .i64 (Ah (ofNat z) (ofNat i))) (ofNat n))) a.1)))) (.leaf (.inl (a.1,GN a.2 (toN (An (wr .i64 (Ah (ofNat z) (ofNat i))) (ofNat n))) a.1)))
def Lb (c0:Nat) (p:E6->Bool) (n:Nat) (f:Nat->E6) (z:Nat) (a:Int×(Nat->Int)):Ex×St:=(.ex 2,⟨jsV 97 0 Ab [(0,.sl 6 n (λi=>eV (f i))),(1,.fn c0 []),(4,.ref 0),(5,nV n),(8,.ref 1)],[.row 3 1 0 Ab,.row 3 1 n (λi=>iV (a.2 i))]⟩)
section
variable (L:LT) (n:Nat) (f:Nat->E6) (z:Nat) (hz:z<n) (hn:n <= 4611686018427387904)
include L n f z hz hn
theorem AgR {e:Ex×St} {a:Int×(Nat->Int)} {j:Nat->V} (h:BV (Wb 139 A2 n f z) (Lb 139 A2 n f z) n 0 a=some e):(A4 (Afe L) lp86_2 4611686018427387905 (W8 139 A2 n f z 0 a j)).sem=some (exR e) :=
 AD Bq hn (λi a j r hi h=>DK.ok (L:=goR (W8 139 A2 n f z) exR i) (.k (ofNat_lt hi) <| .k (JK hi) <| .c (λh1=>.r 8 h1 <| .k (JK hi) <| .k h1 <| .k (XO hz hi hn) <| .r 3 h1 <| .c (λh2=>.k h2 <| .k (G1 hz hi hn) <| .k (decide_eq_true (G0 hz hi hn)) <| .e (congrArg (λz1=>(Ex.nm,Px 139 A2 n f z (wr .i64 (Ah (ofNat i) 1)) (wr .i64 (Ah a.1 1)) z1)) (Ca a.2 (toN (An (wr .i64 (Ah (ofNat z) (ofNat i))) (ofNat n))) (wr .i64 (Ah a.1 1))))) λh2=>.k h2 <| .k (G1 hz hi hn) <| .k (decide_eq_true (G0 hz hi hn)) <| .e (congrArg (λz1=>(Ex.nm,Px 139 A2 n f z (wr .i64 (Ah (ofNat i) 1)) a.1 z1)) (Ca a.2 (toN (An (wr .i64 (Ah (ofNat z) (ofNat i))) (ofNat n))) a.1))) λh1=>.r 12 h1 <| .k eF <| .k (G1 hz hi hn) <| .k (decide_eq_true (G0 hz hi hn)) <| .e (congrArg (λz1=>(Ex.nm,Px 139 A2 n f z (wr .i64 (Ah (ofNat i) 1)) a.1 z1)) (Ca a.2 (toN (An (wr .i64 (Ah (ofNat z) (ofNat i))) (ofNat n))) a.1))) (by kernel_rfl) h) (λa j=>DK.ok (C:=.leaf (Lb 139 A2 n f z a)) (L:=exR) (.k (Au (Nat.le_refl n)) .l) (by kernel_rfl) rfl) (Nat.zero_add _).symm (Nat.lt_succ_of_le hn) h
theorem AgQ {e:Ex×St} {a:Int×(Nat->Int)} {j:Nat->V} (h:BV (Wb 141 A7 n f z) (Lb 141 A7 n f z) n 0 a=some e):(A4 (Afe L) lp86_2 4611686018427387905 (W8 141 A7 n f z 0 a j)).sem=some (exR e) :=
 AD Bq hn (λi a j r hi h=>DK.ok (L:=goR (W8 141 A7 n f z) exR i) (.k (ofNat_lt hi) <| .k (JK hi) <| .c (λh1=>.r 8 h1 <| .k (JK hi) <| .k h1 <| .k (XO hz hi hn) <| .r 3 h1 <| .c (λh2=>.k h2 <| .k (G1 hz hi hn) <| .k (decide_eq_true (G0 hz hi hn)) <| .e (congrArg (λz1=>(Ex.nm,Px 141 A7 n f z (wr .i64 (Ah (ofNat i) 1)) (wr .i64 (Ah a.1 1)) z1)) (Ca a.2 (toN (An (wr .i64 (Ah (ofNat z) (ofNat i))) (ofNat n))) (wr .i64 (Ah a.1 1))))) λh2=>.k h2 <| .k (G1 hz hi hn) <| .k (decide_eq_true (G0 hz hi hn)) <| .e (congrArg (λz1=>(Ex.nm,Px 141 A7 n f z (wr .i64 (Ah (ofNat i) 1)) a.1 z1)) (Ca a.2 (toN (An (wr .i64 (Ah (ofNat z) (ofNat i))) (ofNat n))) a.1))) λh1=>.r 12 h1 <| .k eF <| .k (G1 hz hi hn) <| .k (decide_eq_true (G0 hz hi hn)) <| .e (congrArg (λz1=>(Ex.nm,Px 141 A7 n f z (wr .i64 (Ah (ofNat i) 1)) a.1 z1)) (Ca a.2 (toN (An (wr .i64 (Ah (ofNat z) (ofNat i))) (ofNat n))) a.1))) (by kernel_rfl) h) (λa j=>DK.ok (C:=.leaf (Lb 141 A7 n f z a)) (L:=exR) (.k (Au (Nat.le_refl n)) .l) (by kernel_rfl) rfl) (Nat.zero_add _).symm (Nat.lt_succ_of_le hn) h
end
def AeT (n:Nat) (g:Nat->Int) (c:Int) (r:Nat) (s o:Nat->V):St:=⟨jsV 97 0 Ab [(4,.ref 0),(8,.ref 1),(12,.ref 2),(13,.ref 3),(70,nV n),(71,iV c)],[.row 3 1 0 Ab,.row 3 1 n (λi=>iV (g i)),.row 3 1 r s,.row 3 1 n o]⟩
def Zm:Lp:=⟨bmK 97 0 [4,8,12,13,70,71],4,bmK 97 0 [13],4,4611686018427387905⟩
def AeY (n:Nat) (g:Nat->Int) (c:Int) (a:Nat×(Nat->Int)×(Nat->Int)) (j:Nat->V):St:=⟨jsV 97 0 j [(4,.ref 0),(8,.ref 1),(12,.ref 2),(13,.ref 3),(70,nV n),(71,iV c)],[.row 3 1 0 Ab,.row 3 1 n (λi=>iV (g i)),.row 3 1 a.1 (λi=>iV (a.2.1 i)),.row 3 1 n (λi=>iV (a.2.2 i))]⟩
noncomputable def AkT (L:LT):St->T (Ex×St):=λst=>AL tab ⟨A0 tb53,L,Gl⟩ (A3 Tryz.f140 4) 4 st
noncomputable def ZT (n:Nat) (g:Nat->Int) (i:Nat) (a:Nat×(Nat->Int)×(Nat->Int)):T ((Nat×(Nat->Int)×(Nat->Int)) ⊕ (Ex×St)):=.br (FF a.1) (.br (ilt (LS a.1 a.2.1 (g i)) 0) (.br (Cp a.1 1 8) (.leaf (.inl ((B1 a.1 1),GN a.2.1 a.1 (g i),GN a.2.2 i (ofNat a.1)))) .fail) (.leaf (.inl (a.1,a.2.1,GN a.2.2 i (LS a.1 a.2.1 (g i)))))) .fail
def Q3 (n:Nat) (g:Nat->Int) (a:Nat×(Nat->Int)×(Nat->Int)):Ex×St:=(.ex 4,⟨jsV 97 0 Ab [(13,.ref 3)],[.row 3 1 0 Ab,.row 3 1 n (λi=>iV (g i)),.row 3 1 a.1 (λi=>iV (a.2.1 i)),.row 3 1 n (λi=>iV (a.2.2 i))]⟩)
theorem AdY (L:LT) (n:Nat) (g:Nat->Int)  (hn:n <= 4611686018427387904) {e:Ex×St} {a:Nat×(Nat->Int)×(Nat->Int)} {j:Nat->V} (h:BV (ZT n g) (Q3 n g) n 0 a=some e):(A4 (AkT L) Zm 4611686018427387905 (AeY n g 0 a j)).sem=some (exR e) :=
 AD Bq hn (λi a j r hi h=>DK.ok (L:=goR (AeY n g) exR i) (.k (ofNat_lt hi) <| .k (Ae hi) <| .k (decide_eq_true hi) <| .k (eL a.1) <| .g λh1=>.k h1 <| .c (λh2=>.k h2 <| .k (Ae hi) <| .k (decide_eq_true hi) <| .g λh3=>.k h3 <| .k (Ae hi) <| .k (decide_eq_true hi) <| .e (eq2 (λz w=>(Ex.nm,AeT n g (wr .i64 (Ah (ofNat i) 1)) (B1 a.1 1) z w)) (Ca a.2.1 a.1 (g i)) (Ca a.2.2 i (ofNat a.1)))) λh2=>.k h2 <| .k (Ae hi) <| .k (decide_eq_true hi) <| .e (congrArg (λw=>(Ex.nm,AeT n g (wr .i64 (Ah (ofNat i) 1)) a.1 (λq=>iV (a.2.1 q)) w)) (Ca a.2.2 i (LS a.1 a.2.1 (g i))))) (by kernel_rfl) h) (λa j=>DK.ok (C:=.leaf (Q3 n g a)) (L:=exR) (.k (Au (Nat.le_refl n)) .l) (by kernel_rfl) rfl) (Nat.zero_add _).symm (Nat.lt_succ_of_le hn) h
def LP:List (Nat×Lp×List (Nat×(Nat->V))):=[(0,lp86,[]),(2,lp86_2,[]),(4,Zm,[(2,λ_=>iV 0)])]
section
variable {c0:Nat} {p:E6->Bool} {n:Nat} {f:Nat->E6} {z:Nat} (hn:n <= 4611686018427387904)
include hn
theorem Ahm (h0:0<n):∀ d i,i+d=n->(∀ k,k<i->p (f ((k+(n-1)) % n))=false)->BV (g86 c0 p n f) (ZW c0 p n f) d i ()=some (XP c0 p n f (EY (λk=>p (f k)) n) ())
 | 0,i,h,hb=>by
  obtain rfl:i=n:=by omega
  rw [UW (p:=λk=>p (f k)) hb];rfl
 | d+1,i,h,hb=>by
  have hl:i<n:=by omega
  have e:(g86 c0 p n f i ()).sem=sel (p (f ((i+(n-1)) % n))) (some (.inr (XP c0 p n f i ()))) (some (.inl ())):=by
   unfold g86;rw [Ky (by omega) (by omega)];rfl
  rw [BV,e];cases hp:p (f ((i+(n-1)) % n)) with
  | true =>rw [AaC (p:=λk=>p (f k)) hl hp hb];rfl
  | false =>
   exact Ahm h0 d (i+1) (by omega) λk hk=>by
    by_cases hki:k=i
    ·rw [hki]; exact hp
    ·exact hb k (by omega)
theorem Ahl (hz:z<n):∀ d b,b+d=n->BV (Wb c0 p n f z) (Lb c0 p n f z) d b (ofNat (Ai (Fx (λk=>p (f k)) n z) (b-1)),gN (λk=>p (f k)) n z b)=some (Lb c0 p n f z (ofNat (Ai (Fx (λk=>p (f k)) n z) (n-1)),gN (λk=>p (f k)) n z n))
 | 0,b,h=>by
  rw [<- h];rfl
 | d+1,b,h=>by
  have hl:b<n:=by omega
  have next:=Ahl hz d (b+1) (by omega)
  have hs:=Ada (p:=λk=>p (f k)) hz hl;rw [show b+1-1=b by omega,<- hs] at next
  rw [BV];unfold Wb;rw [Re hz hl hn];cases b with
  | zero=>exact next
  | succ b =>
   have hc:=By (Fx (λk=>p (f k)) n z) b;have hm:=Nat.mod_lt (z+(b+1)) (show 0<n by omega);rw [Ky (by omega) (by omega),XG hz (by omega)];rw [show b+1-1=b by omega,show toN (ofNat ((z+b) % n))=(z+b) % n from rfl];rw [show ilt 0 (ofNat (b+1))=true by rw [show (0:Int)=ofNat 0 from rfl,Dv]; simp];cases hp:p (f ((z+b) % n)) with
   | true =>
    rw [C6 (show Ai (Fx (λk=>p (f k)) n z) b<n by omega) hn];rw [Bp (p:=Fx (λk=>p (f k)) n z) (i:=b) hp] at next
    exact next
   | false =>
    rw [B6 (p:=Fx (λk=>p (f k)) n z) (i:=b) hp] at next
    exact next
end
theorem TK {p:Nat->Bool} {n z b:Nat} (h:AX p n b=rN p n b):GN (EZ p n z b) (rN p n b) (ofNat (snN p n z (AX p n b)))=EZ p n z (b+1)∧rN p n (b+1)=rN p n b+1:=by
 obtain ⟨e1,e2⟩:=WS (z:=z) h;refine ⟨?_,e2⟩;have e:=(Ca (EZ p n z b) (rN p n b) (ofNat (snN p n z (AX p n b)))).symm.trans e1;funext i;have:=congrFun e i;simpa [iV] using this
theorem Ahk {p:Nat->Bool} {n:Nat} (hn:n * 8 <= 140737488355328) {z:Nat} {g:Nat->Int} (hg:∀ i,i<n->g i=ofNat (snN p n z (AX p n i))):∀ d b,b+d=n ->
  BV (ZT n g) (Q3 n g) d b (rN p n b,EZ p n z b,Xf p n b)=some (Q3 n g (rN p n n,EZ p n z n,Az p n))
 | 0,b,h=>by
  rw [<- AgW p n,<- h];rfl
 | d+1,b,h=>by
  have hl:b<n:=by omega
  have hr:=RL p n b;have h8:FF (rN p n b)=true:=by
   unfold FF;simp;omega
  have next:=Ahk hn hg d (b+1) (by omega)
  rw [BV];unfold ZT;dsimp only;rw [h8,hg b hl];rw [<- Xe hl] at next
  rcases Nat.lt_or_ge (AX p n b) (rN p n b) with hc | hc
  ·obtain ⟨e1,e2⟩:=TL (z:=z) hc
   rw [Y3 hl hc,show ilt (ofNat (AX p n b)) 0=false by simp [ilt]];rw [e1,e2] at next
   exact next
  ·have hc:AX p n b=rN p n b:=Nat.le_antisymm (Md p n b hl) hc
   obtain ⟨e1,e2⟩:=TK (z:=z) hc;rw [Y4 hl hc,Gc (by omega)];rw [<- e1,e2] at next
   rw [hc] at next ⊢
   exact next
theorem Acj {n:Nat} {f:Nat->E6} (hp:0<n) (h8:n * 8 <= 140737488355328) (hm:E0 8 (ofNat n) (ofNat n)=true) :
  (Ax (Ak tab (cxA Gl tb53 LP) Tryz.f140 [AC n f,.fn 139 []] [])).sem=some (.ref 0,[.row 3 1 n λk=>iV (Az (λk=>A2 (f k)) n k)]):=by
 have hn:n <= 4611686018427387904:=by omega
 have hz:=Tf (λk=>A2 (f k)) hp;have l0:=Ahm (c0:=139) (p:=A2) (f:=f) hn hp n 0 (Nat.zero_add n) λk hk=>absurd hk (Nat.not_lt_zero _);have l2:=Ahl (c0:=139) (p:=A2) (f:=f) hn hz n 0 (Nat.zero_add n);have l4:=Ahk h8 (λi hi=>ZR (NT (λk=>A2 (f k)) hp) hi) n 0 (Nat.zero_add n);rw [Akn] at l2;exact DK.of (C:=.leaf _) rfl (.a (Alk (askL LP) n f hn (j:=λ_=>.und) l0) <| .k hm <| .a (AgR (askL LP) n f _ hz hn (j:=λ_=>.und) l2) <| .k hm <| .a (AdY (askL LP) n _ hn (j:=λ_=>.und) l4) <| .l) (by kernel_rfl)
theorem Aci {n:Nat} {f:Nat->E6} (hp:0<n) (h8:n * 8 <= 140737488355328) (hm:E0 8 (ofNat n) (ofNat n)=true) :
  (Ax (Ak tab (cxA Gl tb53 LP) Tryz.f140 [AC n f,.fn 141 []] [])).sem=some (.ref 0,[.row 3 1 n λk=>iV (Az (λk=>A7 (f k)) n k)]):=by
 have hn:n <= 4611686018427387904:=by omega
 have hz:=Tf (λk=>A7 (f k)) hp;have l0:=Ahm (c0:=141) (p:=A7) (f:=f) hn hp n 0 (Nat.zero_add n) λk hk=>absurd hk (Nat.not_lt_zero _);have l2:=Ahl (c0:=141) (p:=A7) (f:=f) hn hz n 0 (Nat.zero_add n);have l4:=Ahk h8 (λi hi=>ZR (NT (λk=>A7 (f k)) hp) hi) n 0 (Nat.zero_add n);rw [Akn] at l2;exact DK.of (C:=.leaf _) rfl (.a (Alj (askL LP) n f hn (j:=λ_=>.und) l0) <| .k hm <| .a (AgQ (askL LP) n f _ hz hn (j:=λ_=>.und) l2) <| .k hm <| .a (AdY (askL LP) n _ hn (j:=λ_=>.und) l4) <| .l) (by kernel_rfl)
noncomputable def Ahe:List V->A9
 | [v,.fn g []]=>apL v λn f=>.br (Aj (ilt 0 (ofNat n)) (Aj (FF n) (E0 8 (ofNat n) (ofNat n)))) (match Nat.beq g 139,Nat.beq g 141 with
  | true,_=>.leaf (.ref 0,[.row 3 1 n λk=>iV (Az (λk=>A2 (f k)) n k)])
  | _,true=>.leaf (.ref 0,[.row 3 1 n λk=>iV (Az (λk=>A7 (f k)) n k)])
  | _,_=>.fail) .fail
 | _=>.fail
theorem p53:As Tryz.prog Gl 140 Ahe:=by
 refine Am A8 mixed Tryz.func140 (by kernel_rfl) (by kernel_rfl) λvs v h' h=>?_;unfold Ahe at h;split at h
 ·rename_i u g
  obtain ⟨n,f,ha,h1⟩:=Ck h;obtain ⟨h8,hq⟩:=Ac h1;have h8:ilt 0 (ofNat n)=true∧FF n=true∧E0 8 (ofNat n) (ofNat n)=true:=by simpa [Aj] using h8
  obtain ⟨h9,h8,hm⟩:=h8;have h9:0<n:=by rw [show (0:Int)=ofNat 0 from rfl,Dv] at h9; simpa using h9
  have h8':n * 8 <= 140737488355328:=of_decide_eq_true h8;have hA:BC [u,.fn g []] [AC n f,.fn g []]:=λS w cs hv=>by
   obtain ⟨c,l,rfl,q1,q2⟩:=hv;exact ⟨c,l,rfl,ha S w c q1,q2⟩
  cases h52:Nat.beq g 139 with
  | true =>rw [h52] at hq;have he:=Nat.eq_of_beq_eq_true h52;subst he;have:=Aa hq;simp only [Prod.mk.injEq] at this;obtain ⟨rfl,rfl⟩:=this;have hx:=Bs tb53_ok LP (G:=Gl);exact ⟨_,cxA Gl tb53 LP,_,hA,rfl,hx.1,hx.2,Acj h9 h8' hm,Aw.refl _⟩
  | false =>
   rw [h52] at hq;cases h54:Nat.beq g 141 with
   | true =>rw [h54] at hq;have he:=Nat.eq_of_beq_eq_true h54;subst he;have:=Aa hq;simp only [Prod.mk.injEq] at this;obtain ⟨rfl,rfl⟩:=this;have hx:=Bs tb53_ok LP (G:=Gl);exact ⟨_,cxA Gl tb53 LP,_,hA,rfl,hx.1,hx.2,Aci h9 h8' hm,Aw.refl _⟩
   | false =>rw [h54] at hq;cases hq
 ·cases h
end Go.Proofs.YtkbafjceglhjhaaGreatDoor.Sh
