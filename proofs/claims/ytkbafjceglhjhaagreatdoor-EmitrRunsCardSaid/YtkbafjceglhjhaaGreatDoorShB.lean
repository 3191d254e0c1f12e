/-
  Layer 7: the program's numbers of threads and of locations (met) are the document's parts. No conditions.
-/
import Derived.Test.YtkbafjceglhjhaaGreatDoorShBa
import Derived.Test.YtkbafjceglhjhaaGreatDoorEdX
namespace Go.Proofs.YtkbafjceglhjhaaGreatDoor.Sh
open Go.Sy Ed
open Int (ofNat)
noncomputable def tb53:AE:=(139,Cc λe=>bV (A9 e))::(141,Cc λe=>bV (AG e))::(178,WI)::[]
theorem tb53_ok:Ar Tryz.prog Gl tb53:=.cons p52 <| .cons p54 <| .cons p92 .nil
theorem BD {a n:Nat} (h:a<2 * n):a % n=if a<n then a else a-n:=by
 split
 ·rename_i h1; exact Nat.mod_eq_of_lt h1
 ·rename_i h1
  have h1:n <= a:=Nat.le_of_not_lt h1;rw [Nat.mod_eq_sub_mod h1,Nat.mod_eq_of_lt (by omega)]
theorem AkS {n z b:Nat} (hz:z<n) (hb:b<n):posN n z ((z+b) % n)=b:=by
 unfold posN;rw [BD (a:=z+b) (by omega)];split
 ·rw [BD (by omega)]; split <;> omega
 ·rw [BD (by omega)]; split <;> omega
theorem Aft {n z i:Nat} (hz:z<n) (hi:i<n):(z+posN n z i) % n=i:=by
 unfold posN;rw [BD (a:=i+(n-z)) (by omega)];split
 ·rw [BD (by omega)]; split <;> omega
 ·rw [BD (by omega)]; split <;> omega
theorem Aar {n z b:Nat} (hz:z<n) (hb:b<n):((z+(b+1)) % n+(n-1)) % n=(z+b) % n:=by
 rcases Nat.lt_or_ge (b+1) n with h | h
 ·rw [BD (a:=z+(b+1)) (by omega),BD (a:=z+b) (by omega)]
  split <;> split <;> (rw [BD (by omega)]; split <;> omega)
 ·have:b+1=n:=by omega
  rw [this,Nat.add_mod_right,Nat.mod_eq_of_lt hz];rw [BD (by omega),BD (a:=z+b) (by omega)];split <;> split <;> omega
theorem LZ {a n:Nat} (hn:0<n) (h:a+n <= 9223372036854775807):Av (wr .i64 (By (wr .i64 (Ai (ofNat a) (ofNat n))) 1)) (ofNat n)=ofNat ((a+(n-1)) % n):=by
 rw [Gr h];have:wr .i64 (By (ofNat (a+n)) 1)=ofNat (a+(n-1)):=by
  have:ofNat (a+n)=ofNat (a+(n-1)+1):=by congr 1; omega
  rw [this];unfold wr By IntKind.wrap;simp [IntKind.bits,IntKind.signed];omega
 rw [this,E0]
def FU (p:Nat->Bool) (n:Nat):Nat:=match (List.range n).find? λi=>p ((i+(n-1)) % n) with
 | some z=>z
 | none=>0
theorem AdX {p:Nat->Bool} {n i:Nat} (hi:i<n) (h:p ((i+(n-1)) % n)=true) (hb:∀ k,k<i->p ((k+(n-1)) % n)=false):FU p n=i:=by
 unfold FU;have:(List.range n).find? (λi=>p ((i+(n-1)) % n))=some i:=by
  rw [List.find?_range_eq_some];exact ⟨h,by simpa using hi,λj hj=>by rw [hb j hj]; rfl⟩
 rw [this]
theorem Xt {p:Nat->Bool} {n:Nat} (hb:∀ k,k<n->p ((k+(n-1)) % n)=false):FU p n=0:=by
 unfold FU;have:(List.range n).find? (λi=>p ((i+(n-1)) % n))=none:=by
  rw [List.find?_eq_none];intro k hk;rw [hb k (by simpa using hk)];simp
 rw [this]
theorem PU (p:Nat->Bool) {n:Nat} (hn:0<n):Begin p n (FU p n):=by
 cases h:(List.range n).find? (λi=>p ((i+(n-1)) % n)) with
 | none =>
  have hz:FU p n=0:=by unfold FU; rw [h]
  rw [hz];rw [List.find?_eq_none] at h;refine .none λk hk=>?_;have:=h ((k+1) % n) (by simpa using Nat.mod_lt _ hn);rw [show ((k+1) % n+(n-1)) % n=k by
   rw [BD (a:=k+1) (by omega)];split <;> (rw [BD (by omega)]; split <;> omega)] at this
  simpa using this
 | some z =>
  have hz:FU p n=z:=by unfold FU; rw [h]
  rw [hz];rw [List.find?_range_eq_some] at h;obtain ⟨h1,h2,h3⟩:=h;have h2:z<n:=by simpa using h2
  have at':∀ k,0<k->k<n->(k+(n-1)) % n=k-1:=λk h0 hk=>by
   rw [BD (by omega)]; split <;> omega
  have at0:(0+(n-1)) % n=n-1:=by rw [Nat.zero_add,Nat.mod_eq_of_lt (by omega)]
  rcases Nat.eq_zero_or_pos z with h0 | h0
  ·subst h0
   rw [at0] at h1;exact .last hn h1
  ·rw [at' z h0 h2] at h1
   refine .first h0 h2 h1 (λk hk=>?_) ?_
   ·have:=h3 (k+1) (by omega)
    rw [at' (k+1) (by omega) (by omega)] at this;simpa using this
   ·have:=h3 0 h0
    rw [at0] at this;simpa using this
theorem V1 (p:Nat->Bool) {n:Nat} (hn:0<n):FU p n<n:=by
 have h:=PU p hn;generalize FU p n=z at h;cases h with
 | none _=>exact hn
 | last _ _=>exact hn
 | first _ h _ _ _=>exact h
def gN (p:Nat->Bool) (n z b i:Nat):Int:=if i<n∧posN n z i<b then ofNat (Al (Gu p n z) (posN n z i)) else 0
theorem AoN (p:Nat->Bool) (n z:Nat):gN p n z 0=λ_=>0:=by
 funext i;simp [gN]
theorem Ag8 {p:Nat->Bool} {n z b:Nat} (hz:z<n) (hb:b<n):I8 (gN p n z b) ((z+b) % n) (ofNat (Al (Gu p n z) b))=gN p n z (b+1):=by
 funext i;unfold I8;by_cases hi:i=(z+b) % n
 ·subst hi
  rw [show decide ((z+b) % n=(z+b) % n)=true by simp];simp only [cond_true];unfold gN;rw [AkS hz hb,if_pos ⟨Nat.mod_lt _ (by omega),by omega⟩]
 ·rw [show decide (i=(z+b) % n)=false by simpa using hi]
  simp only [cond_false];unfold gN;by_cases hin:i<n
  ·have hp:posN n z i ≠ b:=λhe=>hi (by rw [<- he,Aft hz hin])
   by_cases h1:posN n z i<b
   ·rw [if_pos ⟨hin,h1⟩,if_pos ⟨hin,by omega⟩]
   ·rw [if_neg (λh=>h1 h.2),if_neg (λh=>by have:=h.2; omega)]
  ·rw [if_neg (λh=>hin h.1),if_neg (λh=>hin h.1)]
theorem Adh {p:Nat->Bool} {n z i:Nat} (hb:Begin p n z) (hi:i<n):gN p n z n i=ofNat (snN p n z (Bg p n i)):=by
 unfold gN;rw [if_pos ⟨hi,show (i+(n-z)) % n<n from Nat.mod_lt _ (by omega)⟩,Afu hb hi]
def FW (p:Nat->Bool) (n z b i:Nat):Int:=if i<rN p n b then ofNat (snN p n z i) else 0
def ZB (p:Nat->Bool) (n b i:Nat):Int:=if i<b then A8 p n i else 0
theorem AkV (p:Nat->Bool) (n:Nat):ZB p n n=A8 p n:=by
 funext i;unfold ZB;split
 ·rfl
 ·rename_i h
  unfold A8;rw [show decide (i<n)=false by simpa using h];rfl
theorem ZA {p:Nat->Bool} {n b:Nat} (hb:b<n):I8 (ZB p n b) b (ofNat (Bg p n b))=ZB p n (b+1):=by
 funext i;unfold I8 ZB;by_cases hi:i=b
 ·subst hi
  rw [if_pos (Nat.lt_succ_self i),FZ hb];simp
 ·rw [show decide (i=b)=false by simpa using hi]
  simp only [cond_false];by_cases h1:i<b
  ·rw [if_pos h1,if_pos (by omega)]
  ·rw [if_neg h1,if_neg (by omega)]
theorem VZ {p:Nat->Bool} {n z b:Nat} (h:Bg p n b<rN p n b):FW p n z (b+1)=FW p n z b∧rN p n (b+1)=rN p n b:=by
 have:rN p n (b+1)=rN p n b:=by rw [rN,if_pos h]
 exact ⟨by funext i; unfold FW; rw [this],this⟩
theorem Zv {p:Nat->Bool} {n z b:Nat} (h:Bg p n b=rN p n b):AX (rN p n b) (λi=>iV (FW p n z b i)) (iV (ofNat (snN p n z (Bg p n b))))=(λi=>iV (FW p n z (b+1) i))∧rN p n (b+1)=rN p n b+1:=by
 have hr:rN p n (b+1)=rN p n b+1:=by rw [rN,if_neg (by omega)]
 refine ⟨?_,hr⟩;funext k;rw [BK,show Nat.beq k (rN p n b)=decide (k=rN p n b) by rw [Bool.eq_iff_iff]; simp];unfold FW;rw [hr];by_cases hk:k=rN p n b
 ·rw [hk,h]; simp
 ·by_cases h2:k<rN p n b
  ·have:k<rN p n b+1:=by omega
   simp [hk,h2,this]
  ·have:¬ k<rN p n b+1:=by omega
   simp [hk,h2,this]
theorem Abk {p:Nat->Bool} {n z b:Nat} (hb:b<n) (h:Bg p n b<rN p n b):N9 (rN p n b) (FW p n z b) (ofNat (snN p n z (Bg p n b)))=ofNat (Bg p n b):=by
 refine Ri h ?_ λk hk=>?_
 ·unfold FW
  rw [if_pos h];simp [ieq]
 ·unfold FW
  rw [if_pos (by omega)];have:=AhC p n b (by omega) _ h;cases he:ieq (ofNat (snN p n z (Bg p n b))) (ofNat (snN p n z k)) with
  | false=>rfl
  | true =>have he:=Int.ofNat.inj ((beq_iff_eq (α:=Int)).1 he);have:=Abb (p:=p) (n:=n) (z:=z) (Nat.le_of_lt hk) this he.symm;omega
theorem Abl {p:Nat->Bool} {n z b:Nat} (hb:b<n) (h:Bg p n b=rN p n b):N9 (rN p n b) (FW p n z b) (ofNat (snN p n z (Bg p n b))) = -1:=by
 refine UQ λk hk=>?_;unfold FW;rw [if_pos hk];cases he:ieq (ofNat (snN p n z (Bg p n b))) (ofNat (snN p n z k)) with
 | false=>rfl
 | true =>have he:=Int.ofNat.inj ((beq_iff_eq (α:=Int)).1 he);have:=Abb (p:=p) (n:=n) (z:=z) (show k <= Bg p n b by omega) (Lh (by omega)) he.symm;omega
theorem eq2 {α β γ:Type} (f:α->β->γ) {a a':α} {b b':β} (h:a=a') (k:b=b'):f a b=f a' b':=by rw [h,k]
theorem V0 {a n:Nat} (h:a<n) (hn:n <= 4611686018427387904):Ak (ile 0 (Av (wr .i64 (By (wr .i64 (Ai (ofNat a) (ofNat n))) 1)) (ofNat n))) (ilt (Av (wr .i64 (By (wr .i64 (Ai (ofNat a) (ofNat n))) 1)) (ofNat n)) (ofNat n))=true:=by
 rw [LZ (by omega) (by omega)];exact Ae (Nat.mod_lt _ (by omega))
theorem TG {z i n:Nat} (hz:z<n) (hi:i<n) (hn:n <= 4611686018427387904):Av (wr .i64 (Ai (ofNat z) (ofNat i))) (ofNat n)=ofNat ((z+i) % n):=by rw [Gr (by omega),E0]
theorem H3 {z i n:Nat} (hz:z<n) (hi:i<n) (hn:n <= 4611686018427387904):toN (Av (wr .i64 (Ai (ofNat z) (ofNat i))) (ofNat n))<n:=by
 rw [TG hz hi hn];exact Nat.mod_lt _ (by omega)
theorem H4 {z i n:Nat} (hz:z<n) (hi:i<n) (hn:n <= 4611686018427387904):Ak (ile 0 (Av (wr .i64 (Ai (ofNat z) (ofNat i))) (ofNat n))) (ilt (Av (wr .i64 (Ai (ofNat z) (ofNat i))) (ofNat n)) (ofNat n))=true:=by
 rw [TG hz hi hn];exact Ae (Nat.mod_lt _ (by omega))
theorem Aa0 {z i n:Nat} (hz:z<n) (hi:i<n) (hn:n <= 4611686018427387904):Ak (ile 0 (Av (wr .i64 (By (wr .i64 (Ai (Av (wr .i64 (Ai (ofNat z) (ofNat i))) (ofNat n)) (ofNat n))) 1)) (ofNat n))) (ilt (Av (wr .i64 (By (wr .i64 (Ai (Av (wr .i64 (Ai (ofNat z) (ofNat i))) (ofNat n)) (ofNat n))) 1)) (ofNat n)) (ofNat n))=true:=by
 rw [TG hz hi hn];exact V0 (Nat.mod_lt _ (by omega)) hn
def lp86:Lp:=⟨bmK 97 0 [0,1,4,5,6,18,19],1,bmK 97 0 [0,1,4,5,6],1,4611686018427387905⟩
def S86 (c0:Nat) (p:E6->Bool) (n:Nat) (f:Nat->E6) (c:Int) (a:Unit) (j:Nat->V):St:=⟨jsV 97 0 j [(0,.sl 6 n (λi=>eV (f i))),(1,.fn c0 []),(4,.ref 0),(5,nV n),(6,iV 0),(18,nV n),(19,iV c)],[.row 3 1 0 Ab]⟩
noncomputable def B86 (L:LT):St->T (Ex×St):=λst=>AK tab ⟨A2 tb53,L,Gl⟩ (A3 Tryz.f140 0) 0 st
def Aa1 (c0:Nat) (p:E6->Bool) (n:Nat) (f:Nat->E6) (i:Nat) (a:Unit):Ex×St:=(.ex 0,⟨jsV 97 0 Ab [(0,.sl 6 n (λi=>eV (f i))),(1,.fn c0 []),(4,.ref 0),(5,nV n),(6,nV i)],[.row 3 1 0 Ab]⟩)
def g86 (c0:Nat) (p:E6->Bool) (n:Nat) (f:Nat->E6) (i:Nat) (a:Unit):T ((Unit) ⊕ (Ex×St)):=.br (p (f (toN (Av (wr .i64 (By (wr .i64 (Ai (ofNat i) (ofNat n))) 1)) (ofNat n))))) (.leaf (.inr (Aa1 c0 p n f i a))) (.leaf (.inl ()))
def Ado (c0:Nat) (p:E6->Bool) (n:Nat) (f:Nat->E6) (a:Unit):Ex×St:=(.ex 0,⟨jsV 97 0 Ab [(0,.sl 6 n (λi=>eV (f i))),(1,.fn c0 []),(4,.ref 0),(5,nV n),(6,iV 0)],[.row 3 1 0 Ab]⟩)
section
variable (L:LT) (n:Nat) (f:Nat->E6)  (hn:n <= 4611686018427387904)
include L n f hn
theorem Aqd {e:Ex×St} {a:Unit} {j:Nat->V} (h:Cm (g86 139 A9 n f) (Ado 139 A9 n f) n 0 a=some e):(A4 (B86 L) lp86 4611686018427387905 (S86 139 A9 n f 0 a j)).sem=some (exR e) :=
 AW BG hn (λi a j r hi h=>DK.ok (L:=goR (S86 139 A9 n f) exR i) (.k (ofNat_lt hi) <| .k (Ll hi) <| .k (V0 hi hn) <| .c (λh1=>.k h1 <| .l) λh1=>.k h1 <| .l) (by kernel_rfl) h) (λa j=>DK.ok (C:=.leaf (Ado 139 A9 n f a)) (L:=exR) (.k (Az (Nat.le_refl n)) .l) (by kernel_rfl) rfl) (Nat.zero_add _).symm (Nat.lt_succ_of_le hn) h
theorem Aqc {e:Ex×St} {a:Unit} {j:Nat->V} (h:Cm (g86 141 AG n f) (Ado 141 AG n f) n 0 a=some e):(A4 (B86 L) lp86 4611686018427387905 (S86 141 AG n f 0 a j)).sem=some (exR e) :=
 AW BG hn (λi a j r hi h=>DK.ok (L:=goR (S86 141 AG n f) exR i) (.k (ofNat_lt hi) <| .k (Ll hi) <| .k (V0 hi hn) <| .c (λh1=>.k h1 <| .l) λh1=>.k h1 <| .l) (by kernel_rfl) h) (λa j=>DK.ok (C:=.leaf (Ado 141 AG n f a)) (L:=exR) (.k (Az (Nat.le_refl n)) .l) (by kernel_rfl) rfl) (Nat.zero_add _).symm (Nat.lt_succ_of_le hn) h
end
def RB (c0:Nat) (p:E6->Bool) (n:Nat) (f:Nat->E6) (z:Nat) (c k:Int) (g:Nat->V):St:=⟨jsV 97 0 Ab [(0,.sl 6 n (λi=>eV (f i))),(1,.fn c0 []),(4,.ref 0),(5,nV n),(6,nV z),(8,.ref 1),(9,iV k),(37,nV n),(38,iV c)],[.row 3 1 0 Ab,.row 3 1 n g]⟩
def lp86_2:Lp:=⟨bmK 97 0 [0,1,4,5,6,8,9,37,38],2,bmK 97 0 [0,1,4,5,8],2,4611686018427387905⟩
def YX (c0:Nat) (p:E6->Bool) (n:Nat) (f:Nat->E6) (z:Nat) (c:Int) (a:Int×(Nat->Int)) (j:Nat->V):St:=⟨jsV 97 0 j [(0,.sl 6 n (λi=>eV (f i))),(1,.fn c0 []),(4,.ref 0),(5,nV n),(6,nV z),(8,.ref 1),(9,iV a.1),(37,nV n),(38,iV c)],[.row 3 1 0 Ab,.row 3 1 n (λi=>iV (a.2 i))]⟩
noncomputable def AiP (L:LT):St->T (Ex×St):=λst=>AK tab ⟨A2 tb53,L,Gl⟩ (A3 Tryz.f140 2) 2 st
def Y3 (c0:Nat) (p:E6->Bool) (n:Nat) (f:Nat->E6) (z:Nat) (i:Nat) (a:Int×(Nat->Int)):T ((Int×(Nat->Int)) ⊕ (Ex×St)):=.br (ilt 0 (ofNat i)) (.br (p (f (toN (Av (wr .i64 (By (wr .i64 (Ai (Av (wr .i64 (Ai (ofNat z) (ofNat i))) (ofNat n)) (ofNat n))) 1)) (ofNat n))))) (.leaf (.inl ((wr .i64 (Ai a.1 1)),I8 a.2 (toN (Av (wr .i64 (Ai (ofNat z) (ofNat i))) (ofNat n))) (wr .i64 (Ai a.1 1))))) (.leaf (.inl (a.1,I8 a.2 (toN (Av (wr .i64 (Ai (ofNat z) (ofNat i))) (ofNat n))) a.1)))) (.leaf (.inl (a.1,I8 a.2 (toN (Av (wr .i64 (Ai (ofNat z) (ofNat i))) (ofNat n))) a.1)))
def MC (c0:Nat) (p:E6->Bool) (n:Nat) (f:Nat->E6) (z:Nat) (a:Int×(Nat->Int)):Ex×St:=(.ex 2,⟨jsV 97 0 Ab [(0,.sl 6 n (λi=>eV (f i))),(1,.fn c0 []),(4,.ref 0),(5,nV n),(8,.ref 1)],[.row 3 1 0 Ab,.row 3 1 n (λi=>iV (a.2 i))]⟩)
section
variable (L:LT) (n:Nat) (f:Nat->E6) (z:Nat) (hz:z<n) (hn:n <= 4611686018427387904)
include L n f z hz hn
theorem AkP {e:Ex×St} {a:Int×(Nat->Int)} {j:Nat->V} (h:Cm (Y3 139 A9 n f z) (MC 139 A9 n f z) n 0 a=some e):(A4 (AiP L) lp86_2 4611686018427387905 (YX 139 A9 n f z 0 a j)).sem=some (exR e) :=
 AW BG hn (λi a j r hi h=>DK.ok (L:=goR (YX 139 A9 n f z) exR i) (.k (ofNat_lt hi) <| .k (Ll hi) <| .c (λh1=>.r 8 h1 <| .k (Ll hi) <| .k h1 <| .k (Aa0 hz hi hn) <| .r 3 h1 <| .c (λh2=>.k h2 <| .k (H4 hz hi hn) <| .k (decide_eq_true (H3 hz hi hn)) <| .e (congrArg (λz1=>(Ex.nm,RB 139 A9 n f z (wr .i64 (Ai (ofNat i) 1)) (wr .i64 (Ai a.1 1)) z1)) (CN a.2 (toN (Av (wr .i64 (Ai (ofNat z) (ofNat i))) (ofNat n))) (wr .i64 (Ai a.1 1))))) λh2=>.k h2 <| .k (H4 hz hi hn) <| .k (decide_eq_true (H3 hz hi hn)) <| .e (congrArg (λz1=>(Ex.nm,RB 139 A9 n f z (wr .i64 (Ai (ofNat i) 1)) a.1 z1)) (CN a.2 (toN (Av (wr .i64 (Ai (ofNat z) (ofNat i))) (ofNat n))) a.1))) λh1=>.r 12 h1 <| .k eF <| .k (H4 hz hi hn) <| .k (decide_eq_true (H3 hz hi hn)) <| .e (congrArg (λz1=>(Ex.nm,RB 139 A9 n f z (wr .i64 (Ai (ofNat i) 1)) a.1 z1)) (CN a.2 (toN (Av (wr .i64 (Ai (ofNat z) (ofNat i))) (ofNat n))) a.1))) (by kernel_rfl) h) (λa j=>DK.ok (C:=.leaf (MC 139 A9 n f z a)) (L:=exR) (.k (Az (Nat.le_refl n)) .l) (by kernel_rfl) rfl) (Nat.zero_add _).symm (Nat.lt_succ_of_le hn) h
theorem AkO {e:Ex×St} {a:Int×(Nat->Int)} {j:Nat->V} (h:Cm (Y3 141 AG n f z) (MC 141 AG n f z) n 0 a=some e):(A4 (AiP L) lp86_2 4611686018427387905 (YX 141 AG n f z 0 a j)).sem=some (exR e) :=
 AW BG hn (λi a j r hi h=>DK.ok (L:=goR (YX 141 AG n f z) exR i) (.k (ofNat_lt hi) <| .k (Ll hi) <| .c (λh1=>.r 8 h1 <| .k (Ll hi) <| .k h1 <| .k (Aa0 hz hi hn) <| .r 3 h1 <| .c (λh2=>.k h2 <| .k (H4 hz hi hn) <| .k (decide_eq_true (H3 hz hi hn)) <| .e (congrArg (λz1=>(Ex.nm,RB 141 AG n f z (wr .i64 (Ai (ofNat i) 1)) (wr .i64 (Ai a.1 1)) z1)) (CN a.2 (toN (Av (wr .i64 (Ai (ofNat z) (ofNat i))) (ofNat n))) (wr .i64 (Ai a.1 1))))) λh2=>.k h2 <| .k (H4 hz hi hn) <| .k (decide_eq_true (H3 hz hi hn)) <| .e (congrArg (λz1=>(Ex.nm,RB 141 AG n f z (wr .i64 (Ai (ofNat i) 1)) a.1 z1)) (CN a.2 (toN (Av (wr .i64 (Ai (ofNat z) (ofNat i))) (ofNat n))) a.1))) λh1=>.r 12 h1 <| .k eF <| .k (H4 hz hi hn) <| .k (decide_eq_true (H3 hz hi hn)) <| .e (congrArg (λz1=>(Ex.nm,RB 141 AG n f z (wr .i64 (Ai (ofNat i) 1)) a.1 z1)) (CN a.2 (toN (Av (wr .i64 (Ai (ofNat z) (ofNat i))) (ofNat n))) a.1))) (by kernel_rfl) h) (λa j=>DK.ok (C:=.leaf (MC 141 AG n f z a)) (L:=exR) (.k (Az (Nat.le_refl n)) .l) (by kernel_rfl) rfl) (Nat.zero_add _).symm (Nat.lt_succ_of_le hn) h
end
def AiC (n:Nat) (g:Nat->Int) (c:Int) (r:Nat) (s o:Nat->V):St:=⟨jsV 97 0 Ab [(4,.ref 0),(8,.ref 1),(12,.ref 2),(13,.ref 3),(70,nV n),(71,iV c)],[.row 3 1 0 Ab,.row 3 1 n (λi=>iV (g i)),.row 3 1 r s,.row 3 1 n o]⟩
def Ach:Lp:=⟨bmK 97 0 [4,8,12,13,70,71],4,bmK 97 0 [13],4,4611686018427387905⟩
def AiH (n:Nat) (g:Nat->Int) (c:Int) (a:Nat×(Nat->Int)×(Nat->Int)) (j:Nat->V):St:=⟨jsV 97 0 j [(4,.ref 0),(8,.ref 1),(12,.ref 2),(13,.ref 3),(70,nV n),(71,iV c)],[.row 3 1 0 Ab,.row 3 1 n (λi=>iV (g i)),.row 3 1 a.1 (λi=>iV (a.2.1 i)),.row 3 1 n (λi=>iV (a.2.2 i))]⟩
noncomputable def ApC (L:LT):St->T (Ex×St):=λst=>AK tab ⟨A2 tb53,L,Gl⟩ (A3 Tryz.f140 4) 4 st
noncomputable def Adj (n:Nat) (g:Nat->Int) (i:Nat) (a:Nat×(Nat->Int)×(Nat->Int)):T ((Nat×(Nat->Int)×(Nat->Int)) ⊕ (Ex×St)):=.br (GH a.1) (.br (ilt (N9 a.1 a.2.1 (g i)) 0) (.br (C4 a.1 1 8) (.leaf (.inl ((BC a.1 1),I8 a.2.1 a.1 (g i),I8 a.2.2 i (ofNat a.1)))) .fail) (.leaf (.inl (a.1,a.2.1,I8 a.2.2 i (N9 a.1 a.2.1 (g i)))))) .fail
def SY (n:Nat) (g:Nat->Int) (a:Nat×(Nat->Int)×(Nat->Int)):Ex×St:=(.ex 4,⟨jsV 97 0 Ab [(13,.ref 3)],[.row 3 1 0 Ab,.row 3 1 n (λi=>iV (g i)),.row 3 1 a.1 (λi=>iV (a.2.1 i)),.row 3 1 n (λi=>iV (a.2.2 i))]⟩)
theorem AhD (L:LT) (n:Nat) (g:Nat->Int)  (hn:n <= 4611686018427387904) {e:Ex×St} {a:Nat×(Nat->Int)×(Nat->Int)} {j:Nat->V} (h:Cm (Adj n g) (SY n g) n 0 a=some e):(A4 (ApC L) Ach 4611686018427387905 (AiH n g 0 a j)).sem=some (exR e) :=
 AW BG hn (λi a j r hi h=>DK.ok (L:=goR (AiH n g) exR i) (.k (ofNat_lt hi) <| .k (Ae hi) <| .k (decide_eq_true hi) <| .k (eL a.1) <| .g λh1=>.k h1 <| .c (λh2=>.k h2 <| .k (Ae hi) <| .k (decide_eq_true hi) <| .g λh3=>.k h3 <| .k (Ae hi) <| .k (decide_eq_true hi) <| .e (eq2 (λz w=>(Ex.nm,AiC n g (wr .i64 (Ai (ofNat i) 1)) (BC a.1 1) z w)) (CN a.2.1 a.1 (g i)) (CN a.2.2 i (ofNat a.1)))) λh2=>.k h2 <| .k (Ae hi) <| .k (decide_eq_true hi) <| .e (congrArg (λw=>(Ex.nm,AiC n g (wr .i64 (Ai (ofNat i) 1)) a.1 (λq=>iV (a.2.1 q)) w)) (CN a.2.2 i (N9 a.1 a.2.1 (g i))))) (by kernel_rfl) h) (λa j=>DK.ok (C:=.leaf (SY n g a)) (L:=exR) (.k (Az (Nat.le_refl n)) .l) (by kernel_rfl) rfl) (Nat.zero_add _).symm (Nat.lt_succ_of_le hn) h
def N7:List (Nat×Lp×List (Nat×(Nat->V))):=[(0,lp86,[]),(2,lp86_2,[]),(4,Ach,[(2,λ_=>iV 0)])]
section
variable {c0:Nat} {p:E6->Bool} {n:Nat} {f:Nat->E6} {z:Nat} (hn:n <= 4611686018427387904)
include hn
theorem Als (h0:0<n):∀ d i,i+d=n->(∀ k,k<i->p (f ((k+(n-1)) % n))=false)->Cm (g86 c0 p n f) (Ado c0 p n f) d i ()=some (Aa1 c0 p n f (FU (λk=>p (f k)) n) ())
 | 0,i,h,hb=>by
  obtain rfl:i=n:=by omega
  rw [Xt (p:=λk=>p (f k)) hb];rfl
 | d+1,i,h,hb=>by
  have hl:i<n:=by omega
  have e:(g86 c0 p n f i ()).sem=sel (p (f ((i+(n-1)) % n))) (some (.inr (Aa1 c0 p n f i ()))) (some (.inl ())):=by
   unfold g86;rw [LZ (by omega) (by omega)];rfl
  rw [Cm,e];cases hp:p (f ((i+(n-1)) % n)) with
  | true =>rw [AdX (p:=λk=>p (f k)) hl hp hb];rfl
  | false =>
   exact Als h0 d (i+1) (by omega) λk hk=>by
    by_cases hki:k=i
    ·rw [hki]; exact hp
    ·exact hb k (by omega)
theorem Alr (hz:z<n):∀ d b,b+d=n->Cm (Y3 c0 p n f z) (MC c0 p n f z) d b (ofNat (Al (Gu (λk=>p (f k)) n z) (b-1)),gN (λk=>p (f k)) n z b)=some (MC c0 p n f z (ofNat (Al (Gu (λk=>p (f k)) n z) (n-1)),gN (λk=>p (f k)) n z n))
 | 0,b,h=>by
  rw [<- h];rfl
 | d+1,b,h=>by
  have hl:b<n:=by omega
  have next:=Alr hz d (b+1) (by omega)
  have hs:=Ag8 (p:=λk=>p (f k)) hz hl;rw [show b+1-1=b by omega,<- hs] at next
  rw [Cm];unfold Y3;rw [TG hz hl hn];cases b with
  | zero=>exact next
  | succ b =>
   have hc:=BI (Gu (λk=>p (f k)) n z) b;have hm:=Nat.mod_lt (z+(b+1)) (show 0<n by omega);rw [LZ (by omega) (by omega),Aar hz (by omega)];rw [show b+1-1=b by omega,show toN (ofNat ((z+b) % n))=(z+b) % n from rfl];rw [show ilt 0 (ofNat (b+1))=true by rw [show (0:Int)=ofNat 0 from rfl,DI]; simp];cases hp:p (f ((z+b) % n)) with
   | true =>
    rw [CU (show Al (Gu (λk=>p (f k)) n z) b<n by omega) hn];rw [Bz (p:=Gu (λk=>p (f k)) n z) (i:=b) hp] at next
    exact next
   | false =>
    rw [BL (p:=Gu (λk=>p (f k)) n z) (i:=b) hp] at next
    exact next
end
theorem VY {p:Nat->Bool} {n z b:Nat} (h:Bg p n b=rN p n b):I8 (FW p n z b) (rN p n b) (ofNat (snN p n z (Bg p n b)))=FW p n z (b+1)∧rN p n (b+1)=rN p n b+1:=by
 obtain ⟨e1,e2⟩:=Zv (z:=z) h;refine ⟨?_,e2⟩;have e:=(CN (FW p n z b) (rN p n b) (ofNat (snN p n z (Bg p n b)))).symm.trans e1;funext i;have:=congrFun e i;simpa [iV] using this
theorem Alq {p:Nat->Bool} {n:Nat} (hn:n * 8 <= 140737488355328) {z:Nat} {g:Nat->Int} (hg:∀ i,i<n->g i=ofNat (snN p n z (Bg p n i))):∀ d b,b+d=n ->
  Cm (Adj n g) (SY n g) d b (rN p n b,FW p n z b,ZB p n b)=some (SY n g (rN p n n,FW p n z n,A8 p n))
 | 0,b,h=>by
  rw [<- AkV p n,<- h];rfl
 | d+1,b,h=>by
  have hl:b<n:=by omega
  have hr:=Uq p n b;have h8:GH (rN p n b)=true:=by
   unfold GH;simp;omega
  have next:=Alq hn hg d (b+1) (by omega)
  rw [Cm];unfold Adj;dsimp only;rw [h8,hg b hl];rw [<- ZA hl] at next
  rcases Nat.lt_or_ge (Bg p n b) (rN p n b) with hc | hc
  ·obtain ⟨e1,e2⟩:=VZ (z:=z) hc
   rw [Abk hl hc,show ilt (ofNat (Bg p n b)) 0=false by simp [ilt]];rw [e1,e2] at next
   exact next
  ·have hc:Bg p n b=rN p n b:=Nat.le_antisymm (NI p n b hl) hc
   obtain ⟨e1,e2⟩:=VY (z:=z) hc;rw [Abl hl hc,Hf (by omega)];rw [<- e1,e2] at next
   rw [hc] at next ⊢
   exact next
theorem AfB {n:Nat} {f:Nat->E6} (hp:0<n) (h8:n * 8 <= 140737488355328) (hm:EL 8 (ofNat n) (ofNat n)=true) :
  (Ay (Aj tab (cxA Gl tb53 N7) Tryz.f140 [AN n f,.fn 139 []] [])).sem=some (.ref 0,[.row 3 1 n λk=>iV (A8 (λk=>A9 (f k)) n k)]):=by
 have hn:n <= 4611686018427387904:=by omega
 have hz:=V1 (λk=>A9 (f k)) hp;have l0:=Als (c0:=139) (p:=A9) (f:=f) hn hp n 0 (Nat.zero_add n) λk hk=>absurd hk (Nat.not_lt_zero _);have l2:=Alr (c0:=139) (p:=A9) (f:=f) hn hz n 0 (Nat.zero_add n);have l4:=Alq h8 (λi hi=>Adh (PU (λk=>A9 (f k)) hp) hi) n 0 (Nat.zero_add n);rw [AoN] at l2;exact DK.of (C:=.leaf _) rfl (.a (Aqd (askL N7) n f hn (j:=λ_=>.und) l0) <| .k hm <| .a (AkP (askL N7) n f _ hz hn (j:=λ_=>.und) l2) <| .k hm <| .a (AhD (askL N7) n _ hn (j:=λ_=>.und) l4) <| .l) (by kernel_rfl)
theorem AfA {n:Nat} {f:Nat->E6} (hp:0<n) (h8:n * 8 <= 140737488355328) (hm:EL 8 (ofNat n) (ofNat n)=true) :
  (Ay (Aj tab (cxA Gl tb53 N7) Tryz.f140 [AN n f,.fn 141 []] [])).sem=some (.ref 0,[.row 3 1 n λk=>iV (A8 (λk=>AG (f k)) n k)]):=by
 have hn:n <= 4611686018427387904:=by omega
 have hz:=V1 (λk=>AG (f k)) hp;have l0:=Als (c0:=141) (p:=AG) (f:=f) hn hp n 0 (Nat.zero_add n) λk hk=>absurd hk (Nat.not_lt_zero _);have l2:=Alr (c0:=141) (p:=AG) (f:=f) hn hz n 0 (Nat.zero_add n);have l4:=Alq h8 (λi hi=>Adh (PU (λk=>AG (f k)) hp) hi) n 0 (Nat.zero_add n);rw [AoN] at l2;exact DK.of (C:=.leaf _) rfl (.a (Aqc (askL N7) n f hn (j:=λ_=>.und) l0) <| .k hm <| .a (AkO (askL N7) n f _ hz hn (j:=λ_=>.und) l2) <| .k hm <| .a (AhD (askL N7) n _ hn (j:=λ_=>.und) l4) <| .l) (by kernel_rfl)
noncomputable def Alj:List V->AA
 | [v,.fn g []]=>apL v λn f=>.br (Ak (ilt 0 (ofNat n)) (Ak (GH n) (EL 8 (ofNat n) (ofNat n)))) (match Nat.beq g 139,Nat.beq g 141 with
  | true,_=>.leaf (.ref 0,[.row 3 1 n λk=>iV (A8 (λk=>A9 (f k)) n k)])
  | _,true=>.leaf (.ref 0,[.row 3 1 n λk=>iV (A8 (λk=>AG (f k)) n k)])
  | _,_=>.fail) .fail
 | _=>.fail
theorem p53:As Tryz.prog Gl 140 Alj:=by
 refine Am A0 mixed Tryz.func140 (by kernel_rfl) (by kernel_rfl) λvs v h' h=>?_;unfold Alj at h;split at h
 ·rename_i u g
  obtain ⟨n,f,ha,h1⟩:=CG h;obtain ⟨h8,hq⟩:=Ad h1;have h8:ilt 0 (ofNat n)=true∧GH n=true∧EL 8 (ofNat n) (ofNat n)=true:=by simpa [Ak] using h8
  obtain ⟨h9,h8,hm⟩:=h8;have h9:0<n:=by rw [show (0:Int)=ofNat 0 from rfl,DI] at h9; simpa using h9
  have h8':n * 8 <= 140737488355328:=of_decide_eq_true h8;have hA:Bw [u,.fn g []] [AN n f,.fn g []]:=λS w cs hv=>by
   obtain ⟨c,l,rfl,q1,q2⟩:=hv;exact ⟨c,l,rfl,ha S w c q1,q2⟩
  cases h52:Nat.beq g 139 with
  | true =>rw [h52] at hq;have he:=Nat.eq_of_beq_eq_true h52;subst he;have:=Aa hq;simp only [Prod.mk.injEq] at this;obtain ⟨rfl,rfl⟩:=this;have hx:=Bd tb53_ok N7 (G:=Gl);exact ⟨_,cxA Gl tb53 N7,_,hA,rfl,hx.1,hx.2,AfB h9 h8' hm,Aw.refl _⟩
  | false =>
   rw [h52] at hq;cases h54:Nat.beq g 141 with
   | true =>rw [h54] at hq;have he:=Nat.eq_of_beq_eq_true h54;subst he;have:=Aa hq;simp only [Prod.mk.injEq] at this;obtain ⟨rfl,rfl⟩:=this;have hx:=Bd tb53_ok N7 (G:=Gl);exact ⟨_,cxA Gl tb53 N7,_,hA,rfl,hx.1,hx.2,AfA h9 h8' hm,Aw.refl _⟩
   | false =>rw [h54] at hq;cases hq
 ·cases h
end Go.Proofs.YtkbafjceglhjhaaGreatDoor.Sh
