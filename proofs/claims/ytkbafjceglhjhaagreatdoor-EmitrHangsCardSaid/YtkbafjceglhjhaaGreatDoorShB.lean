/-
  Layer 7: the program's numbers of threads and of locations (met) are the document's parts. No conditions.
-/
import Derived.Test.YtkbafjceglhjhaaGreatDoorShBa
import Derived.Test.YtkbafjceglhjhaaGreatDoorEdX
namespace Go.Proofs.YtkbafjceglhjhaaGreatDoor.Sh
open Go.Sy Ed
open Int (ofNat)
noncomputable def tb53:AK:=(139,BI λe=>bV (Ay e))::(141,BI λe=>bV (A4 e))::(178,TO)::[]
theorem tb53_ok:Ar Tryz.prog Gl tb53:=.cons p52 <| .cons p54 <| .cons p92 .nil
theorem Bt {a n:Nat} (h:a<2 * n):a % n=if a<n then a else a-n:=by
 split
 ·rename_i h1; exact Nat.mod_eq_of_lt h1
 ·rename_i h1
  have h1:n <= a:=Nat.le_of_not_lt h1;rw [Nat.mod_eq_sub_mod h1,Nat.mod_eq_of_lt (by omega)]
theorem AeQ {n z b:Nat} (hz:z<n) (hb:b<n):posN n z ((z+b) % n)=b:=by
 unfold posN;rw [Bt (a:=z+b) (by omega)];split
 ·rw [Bt (by omega)]; split <;> omega
 ·rw [Bt (by omega)]; split <;> omega
theorem AaK {n z i:Nat} (hz:z<n) (hi:i<n):(z+posN n z i) % n=i:=by
 unfold posN;rw [Bt (a:=i+(n-z)) (by omega)];split
 ·rw [Bt (by omega)]; split <;> omega
 ·rw [Bt (by omega)]; split <;> omega
theorem WQ {n z b:Nat} (hz:z<n) (hb:b<n):((z+(b+1)) % n+(n-1)) % n=(z+b) % n:=by
 rcases Nat.lt_or_ge (b+1) n with h | h
 ·rw [Bt (a:=z+(b+1)) (by omega),Bt (a:=z+b) (by omega)]
  split <;> split <;> (rw [Bt (by omega)]; split <;> omega)
 ·have:b+1=n:=by omega
  rw [this,Nat.add_mod_right,Nat.mod_eq_of_lt hz];rw [Bt (by omega),Bt (a:=z+b) (by omega)];split <;> split <;> omega
theorem Kf {a n:Nat} (hn:0<n) (h:a+n <= 9223372036854775807):Al (wr .i64 (Bn (wr .i64 (Ah (ofNat a) (ofNat n))) 1)) (ofNat n)=ofNat ((a+(n-1)) % n):=by
 rw [Fj h];have:wr .i64 (Bn (ofNat (a+n)) 1)=ofNat (a+(n-1)):=by
  have:ofNat (a+n)=ofNat (a+(n-1)+1):=by congr 1; omega
  rw [this];unfold wr Bn IntKind.wrap;simp [IntKind.bits,IntKind.signed];omega
 rw [this,D5]
def ER (p:Nat->Bool) (n:Nat):Nat:=match (List.range n).find? λi=>p ((i+(n-1)) % n) with
 | some z=>z
 | none=>0
theorem Z8 {p:Nat->Bool} {n i:Nat} (hi:i<n) (h:p ((i+(n-1)) % n)=true) (hb:∀ k,k<i->p ((k+(n-1)) % n)=false):ER p n=i:=by
 unfold ER;have:(List.range n).find? (λi=>p ((i+(n-1)) % n))=some i:=by
  rw [List.find?_range_eq_some];exact ⟨h,by simpa using hi,λj hj=>by rw [hb j hj]; rfl⟩
 rw [this]
theorem Uv {p:Nat->Bool} {n:Nat} (hb:∀ k,k<n->p ((k+(n-1)) % n)=false):ER p n=0:=by
 unfold ER;have:(List.range n).find? (λi=>p ((i+(n-1)) % n))=none:=by
  rw [List.find?_eq_none];intro k hk;rw [hb k (by simpa using hk)];simp
 rw [this]
theorem N5 (p:Nat->Bool) {n:Nat} (hn:0<n):Begin p n (ER p n):=by
 cases h:(List.range n).find? (λi=>p ((i+(n-1)) % n)) with
 | none =>
  have hz:ER p n=0:=by unfold ER; rw [h]
  rw [hz];rw [List.find?_eq_none] at h;refine .none λk hk=>?_;have:=h ((k+1) % n) (by simpa using Nat.mod_lt _ hn);rw [show ((k+1) % n+(n-1)) % n=k by
   rw [Bt (a:=k+1) (by omega)];split <;> (rw [Bt (by omega)]; split <;> omega)] at this
  simpa using this
 | some z =>
  have hz:ER p n=z:=by unfold ER; rw [h]
  rw [hz];rw [List.find?_range_eq_some] at h;obtain ⟨h1,h2,h3⟩:=h;have h2:z<n:=by simpa using h2
  have at':∀ k,0<k->k<n->(k+(n-1)) % n=k-1:=λk h0 hk=>by
   rw [Bt (by omega)]; split <;> omega
  have at0:(0+(n-1)) % n=n-1:=by rw [Nat.zero_add,Nat.mod_eq_of_lt (by omega)]
  rcases Nat.eq_zero_or_pos z with h0 | h0
  ·subst h0
   rw [at0] at h1;exact .last hn h1
  ·rw [at' z h0 h2] at h1
   refine .first h0 h2 h1 (λk hk=>?_) ?_
   ·have:=h3 (k+1) (by omega)
    rw [at' (k+1) (by omega) (by omega)] at this;simpa using this
   ·have:=h3 0 h0
    rw [at0] at this;simpa using this
theorem Su (p:Nat->Bool) {n:Nat} (hn:0<n):ER p n<n:=by
 have h:=N5 p hn;generalize ER p n=z at h;cases h with
 | none _=>exact hn
 | last _ _=>exact hn
 | first _ h _ _ _=>exact h
def gN (p:Nat->Bool) (n z b i:Nat):Int:=if i<n∧posN n z i<b then ofNat (Ai (Fo p n z) (posN n z i)) else 0
theorem AhH (p:Nat->Bool) (n z:Nat):gN p n z 0=λ_=>0:=by
 funext i;simp [gN]
theorem Ab9 {p:Nat->Bool} {n z b:Nat} (hz:z<n) (hb:b<n):Hr (gN p n z b) ((z+b) % n) (ofNat (Ai (Fo p n z) b))=gN p n z (b+1):=by
 funext i;unfold Hr;by_cases hi:i=(z+b) % n
 ·subst hi
  rw [show decide ((z+b) % n=(z+b) % n)=true by simp];simp only [cond_true];unfold gN;rw [AeQ hz hb,if_pos ⟨Nat.mod_lt _ (by omega),by omega⟩]
 ·rw [show decide (i=(z+b) % n)=false by simpa using hi]
  simp only [cond_false];unfold gN;by_cases hin:i<n
  ·have hp:posN n z i ≠ b:=λhe=>hi (by rw [<- he,AaK hz hin])
   by_cases h1:posN n z i<b
   ·rw [if_pos ⟨hin,h1⟩,if_pos ⟨hin,by omega⟩]
   ·rw [if_neg (λh=>h1 h.2),if_neg (λh=>by have:=h.2; omega)]
  ·rw [if_neg (λh=>hin h.1),if_neg (λh=>hin h.1)]
theorem YR {p:Nat->Bool} {n z i:Nat} (hb:Begin p n z) (hi:i<n):gN p n z n i=ofNat (snN p n z (AS p n i)):=by
 unfold gN;rw [if_pos ⟨hi,show (i+(n-z)) % n<n from Nat.mod_lt _ (by omega)⟩,AaL hb hi]
def ES (p:Nat->Bool) (n z b i:Nat):Int:=if i<rN p n b then ofNat (snN p n z i) else 0
def Wp (p:Nat->Bool) (n b i:Nat):Int:=if i<b then A1 p n i else 0
theorem AeS (p:Nat->Bool) (n:Nat):Wp p n n=A1 p n:=by
 funext i;unfold Wp;split
 ·rfl
 ·rename_i h
  unfold A1;rw [show decide (i<n)=false by simpa using h];rfl
theorem Wo {p:Nat->Bool} {n b:Nat} (hb:b<n):Hr (Wp p n b) b (ofNat (AS p n b))=Wp p n (b+1):=by
 funext i;unfold Hr Wp;by_cases hi:i=b
 ·subst hi
  rw [if_pos (Nat.lt_succ_self i),EW hb];simp
 ·rw [show decide (i=b)=false by simpa using hi]
  simp only [cond_false];by_cases h1:i<b
  ·rw [if_pos h1,if_pos (by omega)]
  ·rw [if_neg h1,if_neg (by omega)]
theorem Ta {p:Nat->Bool} {n z b:Nat} (h:AS p n b<rN p n b):ES p n z (b+1)=ES p n z b∧rN p n (b+1)=rN p n b:=by
 have:rN p n (b+1)=rN p n b:=by rw [rN,if_pos h]
 exact ⟨by funext i; unfold ES; rw [this],this⟩
theorem Wc {p:Nat->Bool} {n z b:Nat} (h:AS p n b=rN p n b):Be (rN p n b) (λi=>iV (ES p n z b i)) (iV (ofNat (snN p n z (AS p n b))))=(λi=>iV (ES p n z (b+1) i))∧rN p n (b+1)=rN p n b+1:=by
 have hr:rN p n (b+1)=rN p n b+1:=by rw [rN,if_neg (by omega)]
 refine ⟨?_,hr⟩;funext k;rw [BA,show Nat.beq k (rN p n b)=decide (k=rN p n b) by rw [Bool.eq_iff_iff]; simp];unfold ES;rw [hr];by_cases hk:k=rN p n b
 ·rw [hk,h]; simp
 ·by_cases h2:k<rN p n b
  ·have:k<rN p n b+1:=by omega
   simp [hk,h2,this]
  ·have:¬ k<rN p n b+1:=by omega
   simp [hk,h2,this]
theorem XB {p:Nat->Bool} {n z b:Nat} (hb:b<n) (h:AS p n b<rN p n b):L8 (rN p n b) (ES p n z b) (ofNat (snN p n z (AS p n b)))=ofNat (AS p n b):=by
 refine OB h ?_ λk hk=>?_
 ·unfold ES
  rw [if_pos h];simp [ieq]
 ·unfold ES
  rw [if_pos (by omega)];have:=Ac0 p n b (by omega) _ h;cases he:ieq (ofNat (snN p n z (AS p n b))) (ofNat (snN p n z k)) with
  | false=>rfl
  | true =>have he:=Int.ofNat.inj ((beq_iff_eq (α:=Int)).1 he);have:=X4 (p:=p) (n:=n) (z:=z) (Nat.le_of_lt hk) this he.symm;omega
theorem XC {p:Nat->Bool} {n z b:Nat} (hb:b<n) (h:AS p n b=rN p n b):L8 (rN p n b) (ES p n z b) (ofNat (snN p n z (AS p n b))) = -1:=by
 refine RE λk hk=>?_;unfold ES;rw [if_pos hk];cases he:ieq (ofNat (snN p n z (AS p n b))) (ofNat (snN p n z k)) with
 | false=>rfl
 | true =>have he:=Int.ofNat.inj ((beq_iff_eq (α:=Int)).1 he);have:=X4 (p:=p) (n:=n) (z:=z) (show k <= AS p n b by omega) (My (by omega)) he.symm;omega
theorem eq2 {α β γ:Type} (f:α->β->γ) {a a':α} {b b':β} (h:a=a') (k:b=b'):f a b=f a' b':=by rw [h,k]
theorem Ss {a n:Nat} (h:a<n) (hn:n <= 4611686018427387904):Aj (ile 0 (Al (wr .i64 (Bn (wr .i64 (Ah (ofNat a) (ofNat n))) 1)) (ofNat n))) (ilt (Al (wr .i64 (Bn (wr .i64 (Ah (ofNat a) (ofNat n))) 1)) (ofNat n)) (ofNat n))=true:=by
 rw [Kf (by omega) (by omega)];exact Ae (Nat.mod_lt _ (by omega))
theorem Q4 {z i n:Nat} (hz:z<n) (hi:i<n) (hn:n <= 4611686018427387904):Al (wr .i64 (Ah (ofNat z) (ofNat i))) (ofNat n)=ofNat ((z+i) % n):=by rw [Fj (by omega),D5]
theorem Gr {z i n:Nat} (hz:z<n) (hi:i<n) (hn:n <= 4611686018427387904):toN (Al (wr .i64 (Ah (ofNat z) (ofNat i))) (ofNat n))<n:=by
 rw [Q4 hz hi hn];exact Nat.mod_lt _ (by omega)
theorem Gt {z i n:Nat} (hz:z<n) (hi:i<n) (hn:n <= 4611686018427387904):Aj (ile 0 (Al (wr .i64 (Ah (ofNat z) (ofNat i))) (ofNat n))) (ilt (Al (wr .i64 (Ah (ofNat z) (ofNat i))) (ofNat n)) (ofNat n))=true:=by
 rw [Q4 hz hi hn];exact Ae (Nat.mod_lt _ (by omega))
theorem WX {z i n:Nat} (hz:z<n) (hi:i<n) (hn:n <= 4611686018427387904):Aj (ile 0 (Al (wr .i64 (Bn (wr .i64 (Ah (Al (wr .i64 (Ah (ofNat z) (ofNat i))) (ofNat n)) (ofNat n))) 1)) (ofNat n))) (ilt (Al (wr .i64 (Bn (wr .i64 (Ah (Al (wr .i64 (Ah (ofNat z) (ofNat i))) (ofNat n)) (ofNat n))) 1)) (ofNat n)) (ofNat n))=true:=by
 rw [Q4 hz hi hn];exact Ss (Nat.mod_lt _ (by omega)) hn
def lp86:Lp:=⟨bmK 97 0 [0,1,4,5,6,18,19],1,bmK 97 0 [0,1,4,5,6],1,4611686018427387905⟩
def S86 (c0:Nat) (p:E6->Bool) (n:Nat) (f:Nat->E6) (c:Int) (a:Unit) (j:Nat->V):St:=⟨jsV 97 0 j [(0,.sl 6 n (λi=>eV (f i))),(1,.fn c0 []),(4,.ref 0),(5,nV n),(6,iV 0),(18,nV n),(19,iV c)],[.row 3 1 0 Ac]⟩
noncomputable def B86 (L:LT):St->T (Ex×St):=λst=>AI tab ⟨Az tb53,L,Gl⟩ (A0 Tryz.f140 0) 0 st
def WY (c0:Nat) (p:E6->Bool) (n:Nat) (f:Nat->E6) (i:Nat) (a:Unit):Ex×St:=(.ex 0,⟨jsV 97 0 Ac [(0,.sl 6 n (λi=>eV (f i))),(1,.fn c0 []),(4,.ref 0),(5,nV n),(6,nV i)],[.row 3 1 0 Ac]⟩)
def g86 (c0:Nat) (p:E6->Bool) (n:Nat) (f:Nat->E6) (i:Nat) (a:Unit):T ((Unit) ⊕ (Ex×St)):=.br (p (f (toN (Al (wr .i64 (Bn (wr .i64 (Ah (ofNat i) (ofNat n))) 1)) (ofNat n))))) (.leaf (.inr (WY c0 p n f i a))) (.leaf (.inl ()))
def YW (c0:Nat) (p:E6->Bool) (n:Nat) (f:Nat->E6) (a:Unit):Ex×St:=(.ex 0,⟨jsV 97 0 Ac [(0,.sl 6 n (λi=>eV (f i))),(1,.fn c0 []),(4,.ref 0),(5,nV n),(6,iV 0)],[.row 3 1 0 Ac]⟩)
section
variable (L:LT) (n:Nat) (f:Nat->E6)  (hn:n <= 4611686018427387904)
include L n f hn
theorem Ai8 {e:Ex×St} {a:Unit} {j:Nat->V} (h:BQ (g86 139 Ay n f) (YW 139 Ay n f) n 0 a=some e):(A3 (B86 L) lp86 4611686018427387905 (S86 139 Ay n f 0 a j)).sem=some (exR e) :=
 AY BB hn (λi a j r hi h=>DK.ok (L:=goR (S86 139 Ay n f) exR i) (.k (ofNat_lt hi) <| .k (J3 hi) <| .k (Ss hi hn) <| .c (λh1=>.k h1 <| .l) λh1=>.k h1 <| .l) (by kernel_rfl) h) (λa j=>DK.ok (C:=.leaf (YW 139 Ay n f a)) (L:=exR) (.k (Av (Nat.le_refl n)) .l) (by kernel_rfl) rfl) (Nat.zero_add _).symm (Nat.lt_succ_of_le hn) h
theorem Ai7 {e:Ex×St} {a:Unit} {j:Nat->V} (h:BQ (g86 141 A4 n f) (YW 141 A4 n f) n 0 a=some e):(A3 (B86 L) lp86 4611686018427387905 (S86 141 A4 n f 0 a j)).sem=some (exR e) :=
 AY BB hn (λi a j r hi h=>DK.ok (L:=goR (S86 141 A4 n f) exR i) (.k (ofNat_lt hi) <| .k (J3 hi) <| .k (Ss hi hn) <| .c (λh1=>.k h1 <| .l) λh1=>.k h1 <| .l) (by kernel_rfl) h) (λa j=>DK.ok (C:=.leaf (YW 141 A4 n f a)) (L:=exR) (.k (Av (Nat.le_refl n)) .l) (by kernel_rfl) rfl) (Nat.zero_add _).symm (Nat.lt_succ_of_le hn) h
end
def OW (c0:Nat) (p:E6->Bool) (n:Nat) (f:Nat->E6) (z:Nat) (c k:Int) (g:Nat->V):St:=⟨jsV 97 0 Ac [(0,.sl 6 n (λi=>eV (f i))),(1,.fn c0 []),(4,.ref 0),(5,nV n),(6,nV z),(8,.ref 1),(9,iV k),(37,nV n),(38,iV c)],[.row 3 1 0 Ac,.row 3 1 n g]⟩
def lp86_2:Lp:=⟨bmK 97 0 [0,1,4,5,6,8,9,37,38],2,bmK 97 0 [0,1,4,5,8],2,4611686018427387905⟩
def VJ (c0:Nat) (p:E6->Bool) (n:Nat) (f:Nat->E6) (z:Nat) (c:Int) (a:Int×(Nat->Int)) (j:Nat->V):St:=⟨jsV 97 0 j [(0,.sl 6 n (λi=>eV (f i))),(1,.fn c0 []),(4,.ref 0),(5,nV n),(6,nV z),(8,.ref 1),(9,iV a.1),(37,nV n),(38,iV c)],[.row 3 1 0 Ac,.row 3 1 n (λi=>iV (a.2 i))]⟩
noncomputable def Ads (L:LT):St->T (Ex×St):=λst=>AI tab ⟨Az tb53,L,Gl⟩ (A0 Tryz.f140 2) 2 st
def Vt (c0:Nat) (p:E6->Bool) (n:Nat) (f:Nat->E6) (z:Nat) (i:Nat) (a:Int×(Nat->Int)):T ((Int×(Nat->Int)) ⊕ (Ex×St)):=.br (ilt 0 (ofNat i)) (.br (p (f (toN (Al (wr .i64 (Bn (wr .i64 (Ah (Al (wr .i64 (Ah (ofNat z) (ofNat i))) (ofNat n)) (ofNat n))) 1)) (ofNat n))))) (.leaf (.inl ((wr .i64 (Ah a.1 1)),Hr a.2 (toN (Al (wr .i64 (Ah (ofNat z) (ofNat i))) (ofNat n))) (wr .i64 (Ah a.1 1))))) (.leaf (.inl (a.1,Hr a.2 (toN (Al (wr .i64 (Ah (ofNat z) (ofNat i))) (ofNat n))) a.1)))) (.leaf (.inl (a.1,Hr a.2 (toN (Al (wr .i64 (Ah (ofNat z) (ofNat i))) (ofNat n))) a.1)))
def KF (c0:Nat) (p:E6->Bool) (n:Nat) (f:Nat->E6) (z:Nat) (a:Int×(Nat->Int)):Ex×St:=(.ex 2,⟨jsV 97 0 Ac [(0,.sl 6 n (λi=>eV (f i))),(1,.fn c0 []),(4,.ref 0),(5,nV n),(8,.ref 1)],[.row 3 1 0 Ac,.row 3 1 n (λi=>iV (a.2 i))]⟩)
section
variable (L:LT) (n:Nat) (f:Nat->E6) (z:Nat) (hz:z<n) (hn:n <= 4611686018427387904)
include L n f z hz hn
theorem AeN {e:Ex×St} {a:Int×(Nat->Int)} {j:Nat->V} (h:BQ (Vt 139 Ay n f z) (KF 139 Ay n f z) n 0 a=some e):(A3 (Ads L) lp86_2 4611686018427387905 (VJ 139 Ay n f z 0 a j)).sem=some (exR e) :=
 AY BB hn (λi a j r hi h=>DK.ok (L:=goR (VJ 139 Ay n f z) exR i) (.k (ofNat_lt hi) <| .k (J3 hi) <| .c (λh1=>.r 8 h1 <| .k (J3 hi) <| .k h1 <| .k (WX hz hi hn) <| .r 3 h1 <| .c (λh2=>.k h2 <| .k (Gt hz hi hn) <| .k (decide_eq_true (Gr hz hi hn)) <| .e (congrArg (λz1=>(Ex.nm,OW 139 Ay n f z (wr .i64 (Ah (ofNat i) 1)) (wr .i64 (Ah a.1 1)) z1)) (Ch a.2 (toN (Al (wr .i64 (Ah (ofNat z) (ofNat i))) (ofNat n))) (wr .i64 (Ah a.1 1))))) λh2=>.k h2 <| .k (Gt hz hi hn) <| .k (decide_eq_true (Gr hz hi hn)) <| .e (congrArg (λz1=>(Ex.nm,OW 139 Ay n f z (wr .i64 (Ah (ofNat i) 1)) a.1 z1)) (Ch a.2 (toN (Al (wr .i64 (Ah (ofNat z) (ofNat i))) (ofNat n))) a.1))) λh1=>.r 12 h1 <| .k eF <| .k (Gt hz hi hn) <| .k (decide_eq_true (Gr hz hi hn)) <| .e (congrArg (λz1=>(Ex.nm,OW 139 Ay n f z (wr .i64 (Ah (ofNat i) 1)) a.1 z1)) (Ch a.2 (toN (Al (wr .i64 (Ah (ofNat z) (ofNat i))) (ofNat n))) a.1))) (by kernel_rfl) h) (λa j=>DK.ok (C:=.leaf (KF 139 Ay n f z a)) (L:=exR) (.k (Av (Nat.le_refl n)) .l) (by kernel_rfl) rfl) (Nat.zero_add _).symm (Nat.lt_succ_of_le hn) h
theorem AeM {e:Ex×St} {a:Int×(Nat->Int)} {j:Nat->V} (h:BQ (Vt 141 A4 n f z) (KF 141 A4 n f z) n 0 a=some e):(A3 (Ads L) lp86_2 4611686018427387905 (VJ 141 A4 n f z 0 a j)).sem=some (exR e) :=
 AY BB hn (λi a j r hi h=>DK.ok (L:=goR (VJ 141 A4 n f z) exR i) (.k (ofNat_lt hi) <| .k (J3 hi) <| .c (λh1=>.r 8 h1 <| .k (J3 hi) <| .k h1 <| .k (WX hz hi hn) <| .r 3 h1 <| .c (λh2=>.k h2 <| .k (Gt hz hi hn) <| .k (decide_eq_true (Gr hz hi hn)) <| .e (congrArg (λz1=>(Ex.nm,OW 141 A4 n f z (wr .i64 (Ah (ofNat i) 1)) (wr .i64 (Ah a.1 1)) z1)) (Ch a.2 (toN (Al (wr .i64 (Ah (ofNat z) (ofNat i))) (ofNat n))) (wr .i64 (Ah a.1 1))))) λh2=>.k h2 <| .k (Gt hz hi hn) <| .k (decide_eq_true (Gr hz hi hn)) <| .e (congrArg (λz1=>(Ex.nm,OW 141 A4 n f z (wr .i64 (Ah (ofNat i) 1)) a.1 z1)) (Ch a.2 (toN (Al (wr .i64 (Ah (ofNat z) (ofNat i))) (ofNat n))) a.1))) λh1=>.r 12 h1 <| .k eF <| .k (Gt hz hi hn) <| .k (decide_eq_true (Gr hz hi hn)) <| .e (congrArg (λz1=>(Ex.nm,OW 141 A4 n f z (wr .i64 (Ah (ofNat i) 1)) a.1 z1)) (Ch a.2 (toN (Al (wr .i64 (Ah (ofNat z) (ofNat i))) (ofNat n))) a.1))) (by kernel_rfl) h) (λa j=>DK.ok (C:=.leaf (KF 141 A4 n f z a)) (L:=exR) (.k (Av (Nat.le_refl n)) .l) (by kernel_rfl) rfl) (Nat.zero_add _).symm (Nat.lt_succ_of_le hn) h
end
def Adi (n:Nat) (g:Nat->Int) (c:Int) (r:Nat) (s o:Nat->V):St:=⟨jsV 97 0 Ac [(4,.ref 0),(8,.ref 1),(12,.ref 2),(13,.ref 3),(70,nV n),(71,iV c)],[.row 3 1 0 Ac,.row 3 1 n (λi=>iV (g i)),.row 3 1 r s,.row 3 1 n o]⟩
def Yv:Lp:=⟨bmK 97 0 [4,8,12,13,70,71],4,bmK 97 0 [13],4,4611686018427387905⟩
def Adm (n:Nat) (g:Nat->Int) (c:Int) (a:Nat×(Nat->Int)×(Nat->Int)) (j:Nat->V):St:=⟨jsV 97 0 j [(4,.ref 0),(8,.ref 1),(12,.ref 2),(13,.ref 3),(70,nV n),(71,iV c)],[.row 3 1 0 Ac,.row 3 1 n (λi=>iV (g i)),.row 3 1 a.1 (λi=>iV (a.2.1 i)),.row 3 1 n (λi=>iV (a.2.2 i))]⟩
noncomputable def Ais (L:LT):St->T (Ex×St):=λst=>AI tab ⟨Az tb53,L,Gl⟩ (A0 Tryz.f140 4) 4 st
noncomputable def YT (n:Nat) (g:Nat->Int) (i:Nat) (a:Nat×(Nat->Int)×(Nat->Int)):T ((Nat×(Nat->Int)×(Nat->Int)) ⊕ (Ex×St)):=.br (F9 a.1) (.br (ilt (L8 a.1 a.2.1 (g i)) 0) (.br (Dk a.1 1 8) (.leaf (.inl ((B1 a.1 1),Hr a.2.1 a.1 (g i),Hr a.2.2 i (ofNat a.1)))) .fail) (.leaf (.inl (a.1,a.2.1,Hr a.2.2 i (L8 a.1 a.2.1 (g i)))))) .fail
def Qa (n:Nat) (g:Nat->Int) (a:Nat×(Nat->Int)×(Nat->Int)):Ex×St:=(.ex 4,⟨jsV 97 0 Ac [(13,.ref 3)],[.row 3 1 0 Ac,.row 3 1 n (λi=>iV (g i)),.row 3 1 a.1 (λi=>iV (a.2.1 i)),.row 3 1 n (λi=>iV (a.2.2 i))]⟩)
theorem Ac1 (L:LT) (n:Nat) (g:Nat->Int)  (hn:n <= 4611686018427387904) {e:Ex×St} {a:Nat×(Nat->Int)×(Nat->Int)} {j:Nat->V} (h:BQ (YT n g) (Qa n g) n 0 a=some e):(A3 (Ais L) Yv 4611686018427387905 (Adm n g 0 a j)).sem=some (exR e) :=
 AY BB hn (λi a j r hi h=>DK.ok (L:=goR (Adm n g) exR i) (.k (ofNat_lt hi) <| .k (Ae hi) <| .k (decide_eq_true hi) <| .k (eL a.1) <| .g λh1=>.k h1 <| .c (λh2=>.k h2 <| .k (Ae hi) <| .k (decide_eq_true hi) <| .g λh3=>.k h3 <| .k (Ae hi) <| .k (decide_eq_true hi) <| .e (eq2 (λz w=>(Ex.nm,Adi n g (wr .i64 (Ah (ofNat i) 1)) (B1 a.1 1) z w)) (Ch a.2.1 a.1 (g i)) (Ch a.2.2 i (ofNat a.1)))) λh2=>.k h2 <| .k (Ae hi) <| .k (decide_eq_true hi) <| .e (congrArg (λw=>(Ex.nm,Adi n g (wr .i64 (Ah (ofNat i) 1)) a.1 (λq=>iV (a.2.1 q)) w)) (Ch a.2.2 i (L8 a.1 a.2.1 (g i))))) (by kernel_rfl) h) (λa j=>DK.ok (C:=.leaf (Qa n g a)) (L:=exR) (.k (Av (Nat.le_refl n)) .l) (by kernel_rfl) rfl) (Nat.zero_add _).symm (Nat.lt_succ_of_le hn) h
def L1:List (Nat×Lp×List (Nat×(Nat->V))):=[(0,lp86,[]),(2,lp86_2,[]),(4,Yv,[(2,λ_=>iV 0)])]
section
variable {c0:Nat} {p:E6->Bool} {n:Nat} {f:Nat->E6} {z:Nat} (hn:n <= 4611686018427387904)
include hn
theorem Afi (h0:0<n):∀ d i,i+d=n->(∀ k,k<i->p (f ((k+(n-1)) % n))=false)->BQ (g86 c0 p n f) (YW c0 p n f) d i ()=some (WY c0 p n f (ER (λk=>p (f k)) n) ())
 | 0,i,h,hb=>by
  obtain rfl:i=n:=by omega
  rw [Uv (p:=λk=>p (f k)) hb];rfl
 | d+1,i,h,hb=>by
  have hl:i<n:=by omega
  have e:(g86 c0 p n f i ()).sem=sel (p (f ((i+(n-1)) % n))) (some (.inr (WY c0 p n f i ()))) (some (.inl ())):=by
   unfold g86;rw [Kf (by omega) (by omega)];rfl
  rw [BQ,e];cases hp:p (f ((i+(n-1)) % n)) with
  | true =>rw [Z8 (p:=λk=>p (f k)) hl hp hb];rfl
  | false =>
   exact Afi h0 d (i+1) (by omega) λk hk=>by
    by_cases hki:k=i
    ·rw [hki]; exact hp
    ·exact hb k (by omega)
theorem Afh (hz:z<n):∀ d b,b+d=n->BQ (Vt c0 p n f z) (KF c0 p n f z) d b (ofNat (Ai (Fo (λk=>p (f k)) n z) (b-1)),gN (λk=>p (f k)) n z b)=some (KF c0 p n f z (ofNat (Ai (Fo (λk=>p (f k)) n z) (n-1)),gN (λk=>p (f k)) n z n))
 | 0,b,h=>by
  rw [<- h];rfl
 | d+1,b,h=>by
  have hl:b<n:=by omega
  have next:=Afh hz d (b+1) (by omega)
  have hs:=Ab9 (p:=λk=>p (f k)) hz hl;rw [show b+1-1=b by omega,<- hs] at next
  rw [BQ];unfold Vt;rw [Q4 hz hl hn];cases b with
  | zero=>exact next
  | succ b =>
   have hc:=B5 (Fo (λk=>p (f k)) n z) b;have hm:=Nat.mod_lt (z+(b+1)) (show 0<n by omega);rw [Kf (by omega) (by omega),WQ hz (by omega)];rw [show b+1-1=b by omega,show toN (ofNat ((z+b) % n))=(z+b) % n from rfl];rw [show ilt 0 (ofNat (b+1))=true by rw [show (0:Int)=ofNat 0 from rfl,Dp]; simp];cases hp:p (f ((z+b) % n)) with
   | true =>
    rw [E2 (show Ai (Fo (λk=>p (f k)) n z) b<n by omega) hn];rw [Bs (p:=Fo (λk=>p (f k)) n z) (i:=b) hp] at next
    exact next
   | false =>
    rw [B0 (p:=Fo (λk=>p (f k)) n z) (i:=b) hp] at next
    exact next
end
theorem SZ {p:Nat->Bool} {n z b:Nat} (h:AS p n b=rN p n b):Hr (ES p n z b) (rN p n b) (ofNat (snN p n z (AS p n b)))=ES p n z (b+1)∧rN p n (b+1)=rN p n b+1:=by
 obtain ⟨e1,e2⟩:=Wc (z:=z) h;refine ⟨?_,e2⟩;have e:=(Ch (ES p n z b) (rN p n b) (ofNat (snN p n z (AS p n b)))).symm.trans e1;funext i;have:=congrFun e i;simpa [iV] using this
theorem Afg {p:Nat->Bool} {n:Nat} (hn:n * 8 <= 140737488355328) {z:Nat} {g:Nat->Int} (hg:∀ i,i<n->g i=ofNat (snN p n z (AS p n i))):∀ d b,b+d=n ->
  BQ (YT n g) (Qa n g) d b (rN p n b,ES p n z b,Wp p n b)=some (Qa n g (rN p n n,ES p n z n,A1 p n))
 | 0,b,h=>by
  rw [<- AeS p n,<- h];rfl
 | d+1,b,h=>by
  have hl:b<n:=by omega
  have hr:=Rb p n b;have h8:F9 (rN p n b)=true:=by
   unfold F9;simp;omega
  have next:=Afg hn hg d (b+1) (by omega)
  rw [BQ];unfold YT;dsimp only;rw [h8,hg b hl];rw [<- Wo hl] at next
  rcases Nat.lt_or_ge (AS p n b) (rN p n b) with hc | hc
  ·obtain ⟨e1,e2⟩:=Ta (z:=z) hc
   rw [XB hl hc,show ilt (ofNat (AS p n b)) 0=false by simp [ilt]];rw [e1,e2] at next
   exact next
  ·have hc:AS p n b=rN p n b:=Nat.le_antisymm (LL p n b hl) hc
   obtain ⟨e1,e2⟩:=SZ (z:=z) hc;rw [XC hl hc,FV (by omega)];rw [<- e1,e2] at next
   rw [hc] at next ⊢
   exact next
theorem AaZ {n:Nat} {f:Nat->E6} (hp:0<n) (h8:n * 8 <= 140737488355328) (hm:Eu 8 (ofNat n) (ofNat n)=true) :
  (A7 (An tab (cxA Gl tb53 L1) Tryz.f140 [A9 n f,.fn 139 []] [])).sem=some (.ref 0,[.row 3 1 n λk=>iV (A1 (λk=>Ay (f k)) n k)]):=by
 have hn:n <= 4611686018427387904:=by omega
 have hz:=Su (λk=>Ay (f k)) hp;have l0:=Afi (c0:=139) (p:=Ay) (f:=f) hn hp n 0 (Nat.zero_add n) λk hk=>absurd hk (Nat.not_lt_zero _);have l2:=Afh (c0:=139) (p:=Ay) (f:=f) hn hz n 0 (Nat.zero_add n);have l4:=Afg h8 (λi hi=>YR (N5 (λk=>Ay (f k)) hp) hi) n 0 (Nat.zero_add n);rw [AhH] at l2;exact DK.of (C:=.leaf _) rfl (.a (Ai8 (askL L1) n f hn (j:=λ_=>.und) l0) <| .k hm <| .a (AeN (askL L1) n f _ hz hn (j:=λ_=>.und) l2) <| .k hm <| .a (Ac1 (askL L1) n _ hn (j:=λ_=>.und) l4) <| .l) (by kernel_rfl)
theorem AaY {n:Nat} {f:Nat->E6} (hp:0<n) (h8:n * 8 <= 140737488355328) (hm:Eu 8 (ofNat n) (ofNat n)=true) :
  (A7 (An tab (cxA Gl tb53 L1) Tryz.f140 [A9 n f,.fn 141 []] [])).sem=some (.ref 0,[.row 3 1 n λk=>iV (A1 (λk=>A4 (f k)) n k)]):=by
 have hn:n <= 4611686018427387904:=by omega
 have hz:=Su (λk=>A4 (f k)) hp;have l0:=Afi (c0:=141) (p:=A4) (f:=f) hn hp n 0 (Nat.zero_add n) λk hk=>absurd hk (Nat.not_lt_zero _);have l2:=Afh (c0:=141) (p:=A4) (f:=f) hn hz n 0 (Nat.zero_add n);have l4:=Afg h8 (λi hi=>YR (N5 (λk=>A4 (f k)) hp) hi) n 0 (Nat.zero_add n);rw [AhH] at l2;exact DK.of (C:=.leaf _) rfl (.a (Ai7 (askL L1) n f hn (j:=λ_=>.und) l0) <| .k hm <| .a (AeM (askL L1) n f _ hz hn (j:=λ_=>.und) l2) <| .k hm <| .a (Ac1 (askL L1) n _ hn (j:=λ_=>.und) l4) <| .l) (by kernel_rfl)
noncomputable def Afa:List V->AB
 | [v,.fn g []]=>apL v λn f=>.br (Aj (ilt 0 (ofNat n)) (Aj (F9 n) (Eu 8 (ofNat n) (ofNat n)))) (match Nat.beq g 139,Nat.beq g 141 with
  | true,_=>.leaf (.ref 0,[.row 3 1 n λk=>iV (A1 (λk=>Ay (f k)) n k)])
  | _,true=>.leaf (.ref 0,[.row 3 1 n λk=>iV (A1 (λk=>A4 (f k)) n k)])
  | _,_=>.fail) .fail
 | _=>.fail
theorem p53:As Tryz.prog Gl 140 Afa:=by
 refine Am AA mixed Tryz.func140 (by kernel_rfl) (by kernel_rfl) λvs v h' h=>?_;unfold Afa at h;split at h
 ·rename_i u g
  obtain ⟨n,f,ha,h1⟩:=Ce h;obtain ⟨h8,hq⟩:=Ab h1;have h8:ilt 0 (ofNat n)=true∧F9 n=true∧Eu 8 (ofNat n) (ofNat n)=true:=by simpa [Aj] using h8
  obtain ⟨h9,h8,hm⟩:=h8;have h9:0<n:=by rw [show (0:Int)=ofNat 0 from rfl,Dp] at h9; simpa using h9
  have h8':n * 8 <= 140737488355328:=of_decide_eq_true h8;have hA:BK [u,.fn g []] [A9 n f,.fn g []]:=λS w cs hv=>by
   obtain ⟨c,l,rfl,q1,q2⟩:=hv;exact ⟨c,l,rfl,ha S w c q1,q2⟩
  cases h52:Nat.beq g 139 with
  | true =>rw [h52] at hq;have he:=Nat.eq_of_beq_eq_true h52;subst he;have:=Aa hq;simp only [Prod.mk.injEq] at this;obtain ⟨rfl,rfl⟩:=this;have hx:=Bz tb53_ok L1 (G:=Gl);exact ⟨_,cxA Gl tb53 L1,_,hA,rfl,hx.1,hx.2,AaZ h9 h8' hm,Aw.refl _⟩
  | false =>
   rw [h52] at hq;cases h54:Nat.beq g 141 with
   | true =>rw [h54] at hq;have he:=Nat.eq_of_beq_eq_true h54;subst he;have:=Aa hq;simp only [Prod.mk.injEq] at this;obtain ⟨rfl,rfl⟩:=this;have hx:=Bz tb53_ok L1 (G:=Gl);exact ⟨_,cxA Gl tb53 L1,_,hA,rfl,hx.1,hx.2,AaY h9 h8' hm,Aw.refl _⟩
   | false =>rw [h54] at hq;cases hq
 ·cases h
end Go.Proofs.YtkbafjceglhjhaaGreatDoor.Sh
