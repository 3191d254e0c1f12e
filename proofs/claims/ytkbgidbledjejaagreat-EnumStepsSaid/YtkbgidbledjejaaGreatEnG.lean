/-
  Check, the program's and the document's: one answer. No conditions.
-/
import Derived.Test.YtkbgidbledjejaaGreatCyR
import Derived.Test.YtkbgidbledjejaaGreatEnE
import Derived.Test.YtkbgidbledjejaaGreatEnF
namespace Go.Proofs.YtkbgidbledjejaaGreat.Ed
open Go.Sy
open Int (ofNat)
noncomputable def Z6:AD:=(45,Cj λe=>iV (AA e))::(46,ap2 gI toE λa e=>out (Nh a e))::(47,Cj λe=>bV (BW e))::(48,Cj λe=>bV (BK e))::(49,Yz)::(50,Yy)::(51,AdW)::[]
theorem AeX:Al Tryz.prog Gl Z6:=.cons p29 <| .cons p33 <| .cons p60 <| .cons p61 <| .cons p94 <| .cons p95 <| .cons p96 .nil
def Il (n:Nat) (f:Nat->E6):Int:=ofNat (AC (λk=>BW (f k)) n)
def Jd (n:Nat) (f:Nat->E6):Int:=ofNat (AC (λk=>BK (f k)) n)
def Rr (n:Nat) (f:Nat->E6):Int×Int :=
 match crR n (Br (λk=>BK (f k)) n) (λi=>isW (f i)) 2 with
 | (i,true)=>(44,i)
 | (_,false)=>match crR n (Br (λk=>BW (f k)) n) (λ_=>true) 12 with
   | (i,true)=>(45,i)
   | (_,false)=>(0,0)
def Un (n:Nat) (f:Nat->E6):Int×Int :=
 match ilt (Il n f) 2,ilt (Jd n f) 2 with
 | true,_=>(42,0)
 | false,true=>(43,0)
 | false,false=>Rr n f
def La (a:Int) (n:Nat) (f:Nat->E6):Int×Int :=
 match ilt (ofNat n) 2,ilt 16 (ofNat n) with
 | true,_=>(40,0)
 | false,true=>(40,0)
 | false,false=>match Ik a n f,ieq (Ik a n f).1 0 with
  | r,false=>r
  | _,true=>Un n f
def Gr (a:Int) (n:Nat) (f:Nat->E6):Int×Int :=
 match ieq a 1,ieq a 2 with
 | false,false=>(1,0)
 | _,_=>La a n f
def Um:List V->A3
 | [.val (.int .i64 a),v]=>apL v λn f=>.br (BZ n) (out (.tup [iV (Gr a n f).1,iV (Gr a n f).2])) .fail
 | _=>.fail
theorem Zk {a:Int} {n:Nat} {f:Nat->E6} (h:ieq a 1=true ∨ ieq a 2=true):Gr a n f=La a n f:=by
 unfold Gr;rcases h with h | h
 ·rw [h]
 ·rw [h]
  cases ieq a 1 <;> rfl
theorem Aoj {n:Nat} (h:BZ n=true):G2 8 (ofNat n) (ofNat n)=true:=by
 have:=KY h;simp only [G2,Bool.and_eq_true,decide_eq_true_eq,Int.ofNat_eq_natCast];omega
theorem Aja {i n:Nat} (h:i<n) (hn:n <= 4611686018427387904):Av (ile 0 (Aw (wr .i64 (Am (ofNat i) 1)) (ofNat n))) (ilt (Aw (wr .i64 (Am (ofNat i) 1)) (ofNat n)) (ofNat n))=true:=by
 rw [P7 h hn];exact Af (Nat.mod_lt _ (by omega))
def Amd:Lp:=⟨bmK 133 0 [0,1,4,5,6,7,8,9],0,bmK 133 0 [1,4,5,6,7,8],0,4611686018427387905⟩
def S52 (a0:Int) (n:Nat) (f:Nat->E6) (c:Int) (a:Int×Int) (j:Nat->V):St:=⟨jsV 133 0 j [(0,iV a0),(1,.sl 6 n (λi=>eV (f i))),(4,iV 0),(5,iV 0),(6,nV n),(7,iV a.1),(8,iV a.2),(9,iV c)],[]⟩
noncomputable def B52 (L:LT):St->T (Ex×St):=λst=>A8 tab ⟨A9 Z6,L,Gl⟩ (A1 Tryz.f22 0) 0 st
def AaW (a0:Int) (n:Nat) (f:Nat->E6) (i:Nat) (a:Int×Int):Ex×St:=(.rt,⟨jsV 133 0 Ac [(1,.sl 6 n (λi=>eV (f i))),(4,iV 5),(5,nV i),(6,nV n),(7,iV a.1),(8,iV a.2)],[]⟩)
def AaV (a0:Int) (n:Nat) (f:Nat->E6) (i:Nat) (a:Int×Int):Ex×St:=(.rt,⟨jsV 133 0 Ac [(1,.sl 6 n (λi=>eV (f i))),(4,iV 30),(5,nV i),(6,nV n),(7,iV a.1),(8,iV a.2)],[]⟩)
def g52 (a0:Int) (n:Nat) (f:Nat->E6) (i:Nat) (a:Int×Int):T ((Int×Int) ⊕ (Ex×St)):=.br (ieq (AA (f i)) 0) (.br (ID a0 (f i)) (.br (BW (f i)) (.br (BK (f i)) (.leaf (.inl ((wr .i64 (Am a.1 1)),wr .i64 (Am a.2 1)))) (.leaf (.inl ((wr .i64 (Am a.1 1)),a.2)))) (.br (BK (f i)) (.leaf (.inl (a.1,wr .i64 (Am a.2 1)))) (.leaf (.inl (a.1,a.2))))) (.leaf (.inr (AaW a0 n f i a)))) (.leaf (.inr (AaV a0 n f i a)))
def Xw (a0:Int) (n:Nat) (f:Nat->E6) (a:Int×Int):Ex×St:=(.ex 0,⟨jsV 133 0 Ac [(1,.sl 6 n (λi=>eV (f i))),(4,iV 0),(5,iV 0),(6,nV n),(7,iV a.1),(8,iV a.2)],[]⟩)
theorem r52 (L:LT) (a0:Int) (n:Nat) (f:Nat->E6)  (hn:n <= 4611686018427387904) {e:Ex×St} {a:Int×Int} {j:Nat->V} (h:DF (g52 a0 n f) (Xw a0 n f) n 0 a=some e):(Ay (B52 L) Amd 4611686018427387905 (S52 a0 n f 0 a j)).sem=some (exR e) :=
 Ec Hd hn (λi a j r hi h=>DK.ok (L:=goR (S52 a0 n f) exR i) (.k (ofNat_lt hi) <| .k (Af hi) <| .c (λh1=>.k (eN h1) <| .k (Af hi) <| .c (λh2=>.k (eN h2) <| .k (Af hi) <| .c (λh3=>.k h3 <| .k (Af hi) <| .c (λh4=>.k h4 <| .l) λh4=>.k h4 <| .l) λh3=>.k h3 <| .k (Af hi) <| .c (λh5=>.k h5 <| .l) λh5=>.k h5 <| .l) λh2=>.k (eN h2) <| .l) λh1=>.k (eN h1) <| .l) (by kernel_rfl) h) (λa j=>DK.ok (C:=.leaf (Xw a0 n f a)) (L:=exR) (.k (A4 (Nat.le_refl n)) .l) (by kernel_rfl) rfl) (Nat.zero_add _).symm (Nat.lt_succ_of_le hn) h
def AcM:Lp:=⟨bmK 133 0 [1,4,5,6,7,8,12],0,bmK 133 0 [1,4,5,6,7,8],0,4611686018427387905⟩
def Ah8 (a0:Int) (n:Nat) (f:Nat->E6) (c:Int) (a:Int×Int) (j:Nat->V):St:=⟨jsV 133 0 j [(1,.sl 6 n (λi=>eV (f i))),(4,iV 0),(5,iV 0),(6,nV n),(7,iV a.1),(8,iV a.2),(12,iV c)],[]⟩
noncomputable def Anj (L:LT):St->T (Ex×St):=λst=>A8 tab ⟨A9 Z6,L,Gl⟩ (A1 Tryz.f22 2) 2 st
def Lj (a0:Int) (n:Nat) (f:Nat->E6) (i:Nat) (a:Int×Int):Ex×St:=(.rt,⟨jsV 133 0 Ac [(1,.sl 6 n (λi=>eV (f i))),(4,iV 41),(5,nV i),(6,nV n),(7,iV a.1),(8,iV a.2)],[]⟩)
def VG (a0:Int) (n:Nat) (f:Nat->E6) (i:Nat) (a:Int×Int):T ((Int×Int) ⊕ (Ex×St)):=.br (ieq (f i).dst (f (toN (Aw (wr .i64 (Am (ofNat i) 1)) (ofNat n)))).src) (.leaf (.inl (a.1,a.2))) (.leaf (.inr (Lj a0 n f i a)))
def Ql (a0:Int) (n:Nat) (f:Nat->E6) (a:Int×Int):Ex×St:=(.ex 2,⟨jsV 133 0 Ac [(1,.sl 6 n (λi=>eV (f i))),(4,iV 0),(5,iV 0),(6,nV n),(7,iV a.1),(8,iV a.2)],[]⟩)
theorem AgT (L:LT) (a0:Int) (n:Nat) (f:Nat->E6)  (hn:n <= 4611686018427387904) {e:Ex×St} {a:Int×Int} {j:Nat->V} (h:DF (VG a0 n f) (Ql a0 n f) n 0 a=some e):(Ay (Anj L) AcM 4611686018427387905 (Ah8 a0 n f 0 a j)).sem=some (exR e) :=
 Ec Hd hn (λi a j r hi h=>DK.ok (L:=goR (Ah8 a0 n f) exR i) (.k (ofNat_lt hi) <| .k (Af hi) <| .k (Aog hi) <| .k (Aja hi hn) <| .c (λh1=>.k (eN h1) <| .l) λh1=>.k (eN h1) <| .l) (by kernel_rfl) h) (λa j=>DK.ok (C:=.leaf (Ql a0 n f a)) (L:=exR) (.k (A4 (Nat.le_refl n)) .l) (by kernel_rfl) rfl) (Nat.zero_add _).symm (Nat.lt_succ_of_le hn) h
def AcL:Lp:=⟨bmK 133 0 [1,4,5,6,13,14,15],2,bmK 133 0 [1,4,5,6,13],2,4611686018427387905⟩
def Ah7 (a0:Int) (n:Nat) (f:Nat->E6) (c:Int) (a:(Nat->Int)×(Nat->Int)) (j:Nat->V):St:=⟨jsV 133 0 j [(1,.sl 6 n (λi=>eV (f i))),(4,iV 0),(5,iV 0),(6,nV n),(13,.ref 0),(14,.ref 1),(15,iV c)],[.row 3 1 n (λk=>iV (a.1 k)),.row 3 1 n (λk=>iV (a.2 k))]⟩
noncomputable def Ani (L:LT):St->T (Ex×St):=λst=>A8 tab ⟨A9 Z6,L,Gl⟩ (A1 Tryz.f22 4) 4 st
def Li (a0:Int) (n:Nat) (f:Nat->E6) (i:Nat) (a:(Nat->Int)×(Nat->Int)):Ex×St:=(.rt,⟨jsV 133 0 Ac [(1,.sl 6 n (λi=>eV (f i))),(4,iV 44),(5,nV i),(6,nV n),(13,.ref 0)],[.row 3 1 n (λk=>iV (a.1 k)),.row 3 1 n (λk=>iV (a.2 k))]⟩)
def YQ (a0:Int) (n:Nat) (f:Nat->E6) (i:Nat) (a:(Nat->Int)×(Nat->Int)):T (((Nat->Int)×(Nat->Int)) ⊕ (Ex×St)):=.br (ieq (f i).src 2) (.br (ilt 2 (XK n a.2 (λi=>bor (AI true) (isW (f i))) (a.2 i))) (.leaf (.inr (Li a0 n f i a))) (.leaf (.inl (a.1,a.2)))) (.leaf (.inl (a.1,a.2)))
def Qk (a0:Int) (n:Nat) (f:Nat->E6) (a:(Nat->Int)×(Nat->Int)):Ex×St:=(.ex 4,⟨jsV 133 0 Ac [(1,.sl 6 n (λi=>eV (f i))),(4,iV 0),(5,iV 0),(6,nV n),(13,.ref 0)],[.row 3 1 n (λk=>iV (a.1 k)),.row 3 1 n (λk=>iV (a.2 k))]⟩)
theorem AgS (L:LT) (a0:Int) (n:Nat) (f:Nat->E6)  (hn:n <= 4611686018427387904) {e:Ex×St} {a:(Nat->Int)×(Nat->Int)} {j:Nat->V} (h:DF (YQ a0 n f) (Qk a0 n f) n 0 a=some e):(Ay (Ani L) AcL 4611686018427387905 (Ah7 a0 n f 0 a j)).sem=some (exR e) :=
 Ec Hd hn (λi a j r hi h=>DK.ok (L:=goR (Ah7 a0 n f) exR i) (.k (ofNat_lt hi) <| .k (Af hi) <| .c (λh1=>.r 5 h1 <| .k (Af hi) <| .k h1 <| .k (decide_eq_true hi) <| .k h1 <| .r 2 (eL n) <| .k (eJ n) <| .k (decide_eq_true hn) <| .r 2 h1 <| .c (λh2=>.k h2 <| .l) λh2=>.k h2 <| .l) λh1=>.r 9 h1 <| .k eF <| .l) (by kernel_rfl) h) (λa j=>DK.ok (C:=.leaf (Qk a0 n f a)) (L:=exR) (.k (A4 (Nat.le_refl n)) .l) (by kernel_rfl) rfl) (Nat.zero_add _).symm (Nat.lt_succ_of_le hn) h
def AcK:Lp:=⟨bmK 133 0 [1,4,5,6,13,16],2,bmK 133 0 [4,5],0,4611686018427387905⟩
def Ah6 (a0:Int) (n:Nat) (f:Nat->E6) (c:Int) (a:(Nat->Int)×(Nat->Int)) (j:Nat->V):St:=⟨jsV 133 0 j [(1,.sl 6 n (λi=>eV (f i))),(4,iV 0),(5,iV 0),(6,nV n),(13,.ref 0),(16,iV c)],[.row 3 1 n (λk=>iV (a.1 k)),.row 3 1 n (λk=>iV (a.2 k))]⟩
noncomputable def Anh (L:LT):St->T (Ex×St):=λst=>A8 tab ⟨A9 Z6,L,Gl⟩ (A1 Tryz.f22 6) 6 st
def Lh (a0:Int) (n:Nat) (f:Nat->E6) (i:Nat) (a:(Nat->Int)×(Nat->Int)):Ex×St:=(.rt,⟨jsV 133 0 Ac [(4,iV 45),(5,nV i)],[]⟩)
def YP (a0:Int) (n:Nat) (f:Nat->E6) (i:Nat) (a:(Nat->Int)×(Nat->Int)):T (((Nat->Int)×(Nat->Int)) ⊕ (Ex×St)):=.br (ilt 12 (XK n a.1 (λi=>bor (AI false) (isW (f i))) (a.1 i))) (.leaf (.inr (Lh a0 n f i a))) (.leaf (.inl (a.1,a.2)))
def Qj (a0:Int) (n:Nat) (f:Nat->E6) (a:(Nat->Int)×(Nat->Int)):Ex×St:=(.ex 6,⟨jsV 133 0 Ac [(4,iV 0),(5,iV 0)],[]⟩)
theorem AgR (L:LT) (a0:Int) (n:Nat) (f:Nat->E6)  (hn:n <= 4611686018427387904) {e:Ex×St} {a:(Nat->Int)×(Nat->Int)} {j:Nat->V} (h:DF (YP a0 n f) (Qj a0 n f) n 0 a=some e):(Ay (Anh L) AcK 4611686018427387905 (Ah6 a0 n f 0 a j)).sem=some (exR e) :=
 Ec Hd hn (λi a j r hi h=>DK.ok (L:=goR (Ah6 a0 n f) exR i) (.k (ofNat_lt hi) <| .k (Af hi) <| .k (decide_eq_true hi) <| .r 2 (eL n) <| .k (eJ n) <| .k (decide_eq_true hn) <| .c (λh1=>.k h1 <| .l) λh1=>.k h1 <| .l) (by kernel_rfl) h) (λa j=>DK.ok (C:=.leaf (Qj a0 n f a)) (L:=exR) (.k (A4 (Nat.le_refl n)) .l) (by kernel_rfl) rfl) (Nat.zero_add _).symm (Nat.lt_succ_of_le hn) h
def PC:List (Nat×Lp×List (Nat×(Nat->V))):=[(0,Amd,[]),(2,AcM,[]),(4,AcL,[]),(6,AcK,[])]
abbrev pO (n:Nat) (f:Nat->E6):Nat->Int:=Br (λk=>BW (f k)) n
abbrev pM (n:Nat) (f:Nat->E6):Nat->Int:=Br (λk=>BK (f k)) n
abbrev AmT (n:Nat) (f:Nat->E6):Int×Int:=(Il n f,Jd n f)
abbrev Agx (n:Nat) (f:Nat->E6):(Nat->Int)×(Nat->Int):=(pO n f,pM n f)
theorem Xo {a:Int} {e:E6} (h:Bg a=true):Hn a e=AA e:=by unfold Hn; rw [h]; rfl
theorem kn1 {a:Int} (h:ieq a 1=true):Bg a=true:=by unfold Bg; rw [h]; rfl
theorem kn2 {a:Int} (h:ieq a 2=true):Bg a=true:=by unfold Bg; rw [h]; cases ieq a 1 <;> rfl
section
variable {a0:Int} {n:Nat} {f:Nat->E6}
def Rv (f:Nat->E6) (i:Nat):Int×Int:=(ofNat (AC (λk=>BW (f k)) i),ofNat (AC (λk=>BK (f k)) i))
def Aej (a0:Int) (n:Nat) (f:Nat->E6) (i:Nat):Ex×St:=sel (ieq (Hn a0 (f i)) 0) (AaW a0 n f i (Rv f i)) (AaV a0 n f i (Rv f i))
theorem c52 (hK:Bg a0=true) (hn:n <= 4611686018427387904) {i:Nat} (hi:i<n) (h:DG a0 f i=false):(g52 a0 n f i (Rv f i)).sem=some (.inl (Rv f (i+1))):=by
 have h1:=EK (λk=>BW (f k)) i;have h2:=EK (λk=>BK (f k)) i;unfold DG at h;rw [Xo hK] at h;have w1:=SK (show AC (λk=>BW (f k)) i<n by omega) hn;have w2:=SK (show AC (λk=>BK (f k)) i<n by omega) hn;show sel (ieq (AA (f i)) 0) _ _=_;cases e1:ieq (AA (f i)) 0 with
 | false=>rw [e1] at h; cases h
 | true =>
  show sel (ID a0 (f i)) _ _=_;cases e2:ID a0 (f i) with
  | false=>rw [e1,e2] at h; cases h
  | true =>
   show sel (BW (f i)) (sel (BK (f i)) (some _) (some _)) (sel (BK (f i)) (some _) (some _))=some (Sum.inl (ofNat (match BW (f i) with
    | true=>AC (λk=>BW (f k)) i+1
    | false=>AC (λk=>BW (f k)) i),ofNat (match BK (f i) with
    | true=>AC (λk=>BK (f k)) i+1
    | false=>AC (λk=>BK (f k)) i)))
   cases BW (f i) <;> cases BK (f i) <;> simp only [sel,Rv,w1,w2] <;> rfl
theorem t52 (hK:Bg a0=true) {i:Nat} (h:DG a0 f i=true):(g52 a0 n f i (Rv f i)).sem=some (.inr (Aej a0 n f i)):=by
 unfold DG at h;unfold Aej;rw [Xo hK] at h ⊢;show sel (ieq (AA (f i)) 0) _ _=_;cases e1:ieq (AA (f i)) 0 with
 | false=>rfl
 | true =>
  show sel (ID a0 (f i)) _ _=_;cases e2:ID a0 (f i) with
  | false=>rfl
  | true=>rw [e1,e2] at h; cases h
theorem Aox (hK:Bg a0=true) (hn:n <= 4611686018427387904) (h:isN (Az (DG a0 f) n 0)=true):DF (g52 a0 n f) (Xw a0 n f) n 0 (0,0)=some (Xw a0 n f (Il n f,Jd n f)):=IO (acc:=Rv f) (λ_ hi=>c52 hK hn hi) (λ_ _=>t52 hK) h
theorem Amw (hK:Bg a0=true) (hn:n <= 4611686018427387904) (h:isN (Az (DG a0 f) n 0)=false):DF (g52 a0 n f) (Xw a0 n f) n 0 (0,0)=some (Aej a0 n f (tO (DG a0 f) n)):=IN (acc:=Rv f) (λ_ hi=>c52 hK hn hi) (λ_ _=>t52 hK) h
theorem Aoz (hK:Bg a0=true) (hn:n <= 4611686018427387904) (h:isN (Az (DG a0 f) n 0)=false) (g:ieq (Hn a0 (f (tO (DG a0 f) n))) 0=true):DF (g52 a0 n f) (Xw a0 n f) n 0 (0,0)=some (AaW a0 n f (tO (DG a0 f) n) (Rv f (tO (DG a0 f) n))):=by rw [Amw hK hn h,Aej,g]; rfl
theorem Aoy (hK:Bg a0=true) (hn:n <= 4611686018427387904) (h:isN (Az (DG a0 f) n 0)=false) (g:ieq (Hn a0 (f (tO (DG a0 f) n))) 0=false):DF (g52 a0 n f) (Xw a0 n f) n 0 (0,0)=some (AaV a0 n f (tO (DG a0 f) n) (Rv f (tO (DG a0 f) n))):=by rw [Amw hK hn h,Aej,g]; rfl
theorem Zo (hn:n <= 4611686018427387904) {a:Int×Int} {i:Nat} (hi:i<n):(VG a0 n f i a).sem=sel (Hh n f i) (some (.inr (Lj a0 n f i a))) (some (.inl a)):=by
 unfold VG Hh;rw [P7 hi hn,show toN (ofNat ((i+1) % n))=(i+1) % n from rfl];cases ieq (f i).dst (f ((i+1) % n)).src <;> rfl
theorem Aow (hn:n <= 4611686018427387904) {a:Int×Int} (h:isN (Az (Hh n f) n 0)=true):DF (VG a0 n f) (Ql a0 n f) n 0 a=some (Ql a0 n f a):=IO (acc:=λ_=>a) (x:=λi=>Lj a0 n f i a) (λi hi hq=>by rw [Zo hn hi,hq]; rfl) (λi hi hq=>by rw [Zo hn hi,hq]; rfl) h
theorem Aov (hn:n <= 4611686018427387904) {a:Int×Int} (h:isN (Az (Hh n f) n 0)=false):DF (VG a0 n f) (Ql a0 n f) n 0 a=some (Lj a0 n f (tO (Hh n f) n) a):=IN (acc:=λ_=>a) (x:=λi=>Lj a0 n f i a) (λi hi hq=>by rw [Zo hn hi,hq]; rfl) (λi hi hq=>by rw [Zo hn hi,hq]; rfl) h
theorem Zn {a:(Nat->Int)×(Nat->Int)} {i:Nat}:(YQ a0 n f i a).sem=sel (Bj n a.2 (λi=>isW (f i)) 2 i) (some (.inr (Li a0 n f i a))) (some (.inl a)):=by
 show sel (isW (f i)) _ _=sel (Av (isW (f i)) _) _ _;cases isW (f i) <;> rfl
theorem Aou {a:(Nat->Int)×(Nat->Int)} (h:isN (Az (Bj n a.2 (λi=>isW (f i)) 2) n 0)=true):DF (YQ a0 n f) (Qk a0 n f) n 0 a=some (Qk a0 n f a):=IO (acc:=λ_=>a) (x:=λi=>Li a0 n f i a) (λi _ hq=>by rw [Zn,hq]; rfl) (λi _ hq=>by rw [Zn,hq]; rfl) h
theorem Aot {a:(Nat->Int)×(Nat->Int)} (h:isN (Az (Bj n a.2 (λi=>isW (f i)) 2) n 0)=false):DF (YQ a0 n f) (Qk a0 n f) n 0 a=some (Li a0 n f (tO (Bj n a.2 (λi=>isW (f i)) 2) n) a):=IN (acc:=λ_=>a) (x:=λi=>Li a0 n f i a) (λi _ hq=>by rw [Zn,hq]; rfl) (λi _ hq=>by rw [Zn,hq]; rfl) h
theorem Zm {a:(Nat->Int)×(Nat->Int)} {i:Nat}:(YP a0 n f i a).sem=sel (Bj n a.1 (λ_=>true) 12 i) (some (.inr (Lh a0 n f i a))) (some (.inl a)):=rfl
theorem Aos {a:(Nat->Int)×(Nat->Int)} (h:isN (Az (Bj n a.1 (λ_=>true) 12) n 0)=true):DF (YP a0 n f) (Qj a0 n f) n 0 a=some (Qj a0 n f a):=IO (acc:=λ_=>a) (x:=λi=>Lh a0 n f i a) (λi _ hq=>by rw [Zm,hq]; rfl) (λi _ hq=>by rw [Zm,hq]; rfl) h
theorem Aor {a:(Nat->Int)×(Nat->Int)} (h:isN (Az (Bj n a.1 (λ_=>true) 12) n 0)=false):DF (YP a0 n f) (Qj a0 n f) n 0 a=some (Lh a0 n f (tO (Bj n a.1 (λ_=>true) 12) n) a):=IN (acc:=λ_=>a) (x:=λi=>Lh a0 n f i a) (λi _ hq=>by rw [Zm,hq]; rfl) (λi _ hq=>by rw [Zm,hq]; rfl) h
end
def C52 (a0:Int) (n:Nat) (f:Nat->E6):A3:=.br (ilt (ofNat n) 2) (.leaf ((.tup [iV 40,iV 0]),[])) (.br (ilt 16 (ofNat n)) (.leaf ((.tup [iV 40,iV 0]),[])) (.br (isN (Az (DG a0 f) n 0)) (.br (isN (Az (Hh n f) n 0)) (.br (ilt (Il n f) 2) (.leaf ((.tup [iV 42,iV 0]),[])) (.br (ilt (Jd n f) 2) (.leaf ((.tup [iV 43,iV 0]),[])) (.br (isN (Az (Bj n (pM n f) (λi=>isW (f i)) 2) n 0)) (.br (isN (Az (Bj n (pO n f) (λ_=>true) 12) n 0)) (.leaf ((.tup [iV 0,iV 0]),[])) (.leaf ((.tup [iV 45,nO (Bj n (pO n f) (λ_=>true) 12) n]),[]))) (.leaf ((.tup [iV 44,nO (Bj n (pM n f) (λi=>isW (f i)) 2) n]),[]))))) (.leaf ((.tup [iV 41,nO (Hh n f) n]),[]))) (.br (ieq (Hn a0 (f (tO (DG a0 f) n))) 0) (.leaf ((.tup [iV 5,nO (DG a0 f) n]),[])) (.leaf ((.tup [iV 30,nO (DG a0 f) n]),[])))))
theorem Ag9 (a0:Int) (n:Nat) (f:Nat->E6):(C52 a0 n f).sem=some (.tup [iV (La a0 n f).1,iV (La a0 n f).2],[]):=by
 unfold C52 La Ik Un Rr crR nO tO;cases ilt (ofNat n) 2 with
 | true=>rfl
 | false =>
  cases ilt 16 (ofNat n) with
  | true=>rfl
  | false =>
   cases Az (DG a0 f) n 0 with
   | some t =>show sel (ieq (Hn a0 (f t)) 0) _ _=_;cases e:ieq (Hn a0 (f t)) 0 <;> simp only [e] <;> rfl
   | none =>
    cases Az (Hh n f) n 0 with
    | some t=>rfl
    | none =>
     show sel (ilt (Il n f) 2) _ _=some (V.tup [iV (match ilt (Il n f) 2,ilt (Jd n f) 2 with
      | true,_=>((42:Int),(0:Int))
      | false,true=>(43,0)
      | false,false=>_).1,iV (match ilt (Il n f) 2,ilt (Jd n f) 2 with
      | true,_=>((42:Int),(0:Int))
      | false,true=>(43,0)
      | false,false=>_).2],[])
     cases ilt (Il n f) 2 with
     | true=>rfl
     | false =>
      cases ilt (Jd n f) 2 with
      | true=>rfl
      | false =>
       cases Az (Bj n (Br (λk=>BK (f k)) n) (λi=>isW (f i)) 2) n 0 with
       | some t=>rfl
       | none=>cases Az (Bj n (Br (λk=>BW (f k)) n) (λ_=>true) 12) n 0 <;> rfl
def Ah4 (a:Int) (C:A3):A3:=.br (ieq a 1) C (.br (ieq a 2) C (.leaf (.tup [iV 1,iV 0],[])))
theorem SD {a:Int} {n:Nat} {f:Nat->E6} {C:A3} (h:C.sem=some (.tup [iV (La a n f).1,iV (La a n f).2],[])):(Ah4 a C).sem=some (.tup [iV (Gr a n f).1,iV (Gr a n f).2],[]):=by
 unfold Ah4 Gr;cases ieq a 1 with
 | true=>exact h
 | false =>
  cases ieq a 2 with
  | true=>exact h
  | false=>rfl
theorem p49:Ar Tryz.prog Gl 22 Um:=by
 refine Ah A0 mixed Tryz.func22 (by kernel_rfl) (by kernel_rfl) λvs v h' h=>?_;unfold Um at h;split at h
 ·rename_i a0 u
  obtain ⟨n,f,ha,h1⟩:=Bb h;obtain ⟨hF,hq⟩:=Ab h1;have:=Aa hq;simp only [Prod.mk.injEq] at this;obtain ⟨rfl,rfl⟩:=this;have hn:n <= 4611686018427387904:=Ee (HJ hF);have hx:=AZ AeX PC (G:=Gl);have w:=λ(hK:Bg a0=true)=>show DK (λa=>a) (C52 a0 n f) _ from .c (λh1=>.r 3 h1 <| .k eT <| .l) λh1=>.r 3 h1 <| .c (λh2=>.k h2 <| .l) λh2=>.k h2 <| .c (λh3=>.a (r52 (C3 PC) a0 n f hn (j:=λ_=>.und) (Aox hK hn h3)) <| .c (λh4=>.a (AgT (C3 PC) a0 n f hn (j:=λ_=>.und) (Aow (a:=AmT n f) hn h4)) <| .c (λh5=>.k h5 <| .l) λh5=>.k h5 <| .c (λh6=>.k h6 <| .l) λh6=>.k h6 <| .k (eL n) <| .k hF <| .k (eL n) <| .k hF <| .c (λh7=>.a (AgS (C3 PC) a0 n f hn (j:=λ_=>.und) (Aou (a:=Agx n f) h7)) <| .c (λh8=>.a (AgR (C3 PC) a0 n f hn (j:=λ_=>.und) (Aos (a:=Agx n f) h8)) <| .l) λh8=>.a (AgR (C3 PC) a0 n f hn (j:=λ_=>.und) (Aor (a:=Agx n f) h8)) <| .l) λh7=>.a (AgS (C3 PC) a0 n f hn (j:=λ_=>.und) (Aot (a:=Agx n f) h7)) <| .l) λh4=>.a (AgT (C3 PC) a0 n f hn (j:=λ_=>.und) (Aov (a:=AmT n f) hn h4)) <| .l) λh3=>.c (λg=>.a (r52 (C3 PC) a0 n f hn (j:=λ_=>.und) (Aoz hK hn h3 g)) .l) λg=>.a (r52 (C3 PC) a0 n f hn (j:=λ_=>.und) (Aoy hK hn h3 g)) .l
  exact ⟨_,cxA Gl Z6 PC,_,AjO ha,rfl,hx.1,hx.2,DK.of (SD (Ag9 a0 n f)) (.c (λh1=>.k (eN h1) <| .k (eN h1) <| .k (eN h1) <| .k eF (w (kn1 h1))) λh1=>.k (eN h1) <| .k (eN h1) <| .k (eN h1) <| .c (λh2=>.k (eN h2) (w (kn2 h2))) λh2=>.k (eN h2) .l) (by kernel_rfl),As.refl _⟩
 ·cases h
noncomputable def AkJ:AD:=(85,Aj8)::(86,XH)::(91,WY)::(90,XG)::[]
theorem AeY:Al Tryz.prog Gl AkJ:=.cons p86 <| .cons p87 <| .cons p92 <| .cons p91 .nil
def Am6 (a:Int) (n:Nat) (f:Nat->E6):Int:=(Ik a n f).1
def Ao1 (a:Int) (n:Nat) (f:Nat->E6):Int:=(Ik a n f).2
def crI (n:Nat) (l:Nat->Int) (c:Nat->Bool) (q:Int):Int:=(crR n l c q).1
def crB (n:Nat) (l:Nat->Int) (c:Nat->Bool) (q:Int):Bool:=(crR n l c q).2
theorem Vg (p:Nat->Bool) (n:Nat) (hn:n <= 4611686018427387904):okP n (Br p n)=true:=BR.2 λi hi=>by
 unfold Br;cases decide (i<n) with
 | false=>rfl
 | true =>
  cases decide (AC p i=AC p n) with
  | true=>rfl
  | false =>have:=EK p i;exact YT (by omega)
def C84 (a0:Int) (n:Nat) (f:Nat->E6):A3:=.br (ilt (ofNat n) 2) (.leaf ((.tup [iV 40,iV 0]),[])) (.br (ilt 16 (ofNat n)) (.leaf ((.tup [iV 40,iV 0]),[])) (.br (ieq (Am6 a0 n f) 0) (.br (ilt (Il n f) 2) (.leaf ((.tup [iV 42,iV 0]),[])) (.br (ilt (Jd n f) 2) (.leaf ((.tup [iV 43,iV 0]),[])) (.br (crB n (Br (λk=>BK (f k)) n) (λi=>isW (f i)) 2) (.leaf ((.tup [iV 44,iV (crI n (Br (λk=>BK (f k)) n) (λi=>isW (f i)) 2)]),[])) (.br (crB n (Br (λk=>BW (f k)) n) (λ_=>true) 12) (.leaf ((.tup [iV 45,iV (crI n (Br (λk=>BW (f k)) n) (λ_=>true) 12)]),[])) (.leaf ((.tup [iV 0,iV 0]),[])))))) (.leaf ((.tup [iV (Am6 a0 n f),iV (Ao1 a0 n f)]),[]))))
theorem Ag8 (a0:Int) (n:Nat) (f:Nat->E6):(C84 a0 n f).sem=some (.tup [iV (La a0 n f).1,iV (La a0 n f).2],[]):=by
 unfold C84 La Un Rr;cases ilt (ofNat n) 2 with
 | true=>rfl
 | false =>
  cases ilt 16 (ofNat n) with
  | true=>rfl
  | false =>
   show sel (ieq (Ik a0 n f).1 0) _ _=_;cases e:ieq (Ik a0 n f).1 0 with
   | false=>rfl
   | true =>
    show sel (ilt (Il n f) 2) _ _=some (V.tup [iV (match ilt (Il n f) 2,ilt (Jd n f) 2 with
     | true,_=>((42:Int),(0:Int))
     | false,true=>(43,0)
     | false,false=>_).1,iV (match ilt (Il n f) 2,ilt (Jd n f) 2 with
     | true,_=>((42:Int),(0:Int))
     | false,true=>(43,0)
     | false,false=>_).2],[])
    cases ilt (Il n f) 2 with
    | true=>rfl
    | false =>
     cases ilt (Jd n f) 2 with
     | true=>rfl
     | false =>
      show sel (crR n (Br (λk=>BK (f k)) n) (λi=>isW (f i)) 2).2 (some (V.tup [iV 44,iV (crR n (Br (λk=>BK (f k)) n) (λi=>isW (f i)) 2).1],[])) (sel (crR n (Br (λk=>BW (f k)) n) (λ_=>true) 12).2 (some (V.tup [iV 45,iV (crR n (Br (λk=>BW (f k)) n) (λ_=>true) 12).1],[])) _)=_;cases crR n (Br (λk=>BK (f k)) n) (λi=>isW (f i)) 2 with
      | mk x b =>
       cases b with
       | true=>rfl
       | false =>
        cases crR n (Br (λk=>BW (f k)) n) (λ_=>true) 12 with
        | mk x b=>cases b <;> rfl
theorem p48:Ar Tryz.prog Gl 61 Um:=by
 refine Ah A0 mixed Tryz.func61 (by kernel_rfl) (by kernel_rfl) λvs v h' h=>?_;unfold Um at h;split at h
 ·rename_i a0 u
  obtain ⟨n,f,ha,h1⟩:=Bb h;obtain ⟨hF,hq⟩:=Ab h1;have:=Aa hq;simp only [Prod.mk.injEq] at this;obtain ⟨rfl,rfl⟩:=this;have hn:n <= 4611686018427387904:=Ee (HJ hF);have hk:G2 8 (ofNat n) (ofNat n)=true:=Aoj hF;have hx:=Bu AeY [] (G:=Gl);have w:DK (λa=>a) (C84 a0 n f) _:=.c (λh1=>.r 4 h1 <| .k eT <| .l) λh1=>.r 4 h1 <| .c (λh2=>.k h2 <| .l) λh2=>.k h2 <| .k (eL n) <| .k hF <| .c (λh3=>.k (eN h3) <| .k (eL n) <| .k (decide_eq_true hn) <| .c (λh4=>.k h4 <| .l) λh4=>.k h4 <| .k (eL n) <| .k (decide_eq_true hn) <| .c (λh5=>.k h5 <| .l) λh5=>.k h5 <| .k (eL n) <| .k hk <| .r 2 (eL n) <| .k (eJ n) <| .k (decide_eq_true hn) <| .k (Vg (λk=>BK (f k)) n hn) <| .c (λh6=>.k h6 <| .l) λh6=>.k h6 <| .k (eL n) <| .k hk <| .k (eL n) <| .k (decide_eq_true hn) <| .k (Vg (λk=>BW (f k)) n hn) <| .c (λh7=>.k h7 <| .l) λh7=>.k h7 <| .l) λh3=>.k (eN h3) <| .l
  exact ⟨_,BQ Gl AkJ [],_,AjO ha,rfl,hx.1,hx.2,DK.of (SD (Ag8 a0 n f)) (.c (λh1=>.k (eN h1) <| .k (eN h1) <| .k (eN h1) <| .k eF w) λh1=>.k (eN h1) <| .k (eN h1) <| .k (eN h1) <| .c (λh2=>.k (eN h2) w) λh2=>.k (eN h2) .l) (by kernel_rfl),As.refl _⟩
 ·cases h
end Go.Proofs.YtkbgidbledjejaaGreat.Ed
namespace Go.Proofs.YtkbgidbledjejaaGreat.En
open Go.Sy Go Go.Proofs.YtkbgidbledjejaaGreat.Ed
set_option maxRecDepth 100000
def Amc:Lp:=⟨bmK 26 0 [0,1,4,12,13],0,bmK 26 0 [4],0,4611686018427387905⟩
def S62 (n:Nat) (f g:Nat->E6) (c:Int) (a:Unit) (j:Nat->V):St:=⟨jsV 26 0 j [(0,.sl 6 n (λi=>eV (f i))),(1,.sl 6 n (λi=>eV (g i))),(4,bV false),(12,nV n),(13,iV c)],[]⟩
noncomputable def B62 (L:LT):St->T (Ex×St):=λst=>A8 tab ⟨A9 tbZ,L,Gl⟩ (A1 Tryz.f62 0) 0 st
def AaU (n:Nat) (f g:Nat->E6) (i:Nat) (a:Unit):Ex×St:=(.rt,⟨jsV 26 0 Ac [(4,bV false)],[]⟩)
def g62 (n:Nat) (f g:Nat->E6) (i:Nat) (a:Unit):T ((Unit) ⊕ (Ex×St)):=.br (eqE (f i) (g i)) (.leaf (.inl ())) (.leaf (.inr (AaU n f g i a)))
def Amy (n:Nat) (f g:Nat->E6) (a:Unit):Ex×St:=(.ex 0,⟨jsV 26 0 Ac [(4,bV false)],[]⟩)
theorem r62 (L:LT) (n:Nat) (f g:Nat->E6)  (hn:n <= 4611686018427387904) {e:Ex×St} {a:Unit} {j:Nat->V} (h:DF (g62 n f g) (Amy n f g) n 0 a=some e):(Ay (B62 L) Amc 4611686018427387905 (S62 n f g 0 a j)).sem=some (exR e) :=
 Ec Hd hn (λi a j r hi h=>DK.ok (L:=goR (S62 n f g) exR i) (.k (ofNat_lt hi) <| .r 2 (Af hi) <| .c (λh1=>.k (eN h1) <| .l) λh1=>.k (eN h1) <| .l) (by kernel_rfl) h) (λa j=>DK.ok (C:=.leaf (Amy n f g a)) (L:=exR) (.k (A4 (Nat.le_refl n)) .l) (by kernel_rfl) rfl) (Nat.zero_add _).symm (Nat.lt_succ_of_le hn) h
def AcF:List (Nat×Lp×List (Nat×(Nat->V))):=[(0,Amc,[])]
theorem X2 (f g:Nat->E6) (n:Nat):FG f g n 0=DL n λi=>eqE (f i) (g i):=by
 rw [Bool.eq_iff_iff,IP,BR];exact ⟨λh i hi=>(G6 _ _).2 (h i (Nat.zero_le _) (by omega)),λh i _ hi=>(G6 _ _).1 (h i (by omega))⟩
theorem p62:Ar Tryz.prog Gl 62 Kx:=by
 refine Ah A0 mixed Tryz.func62 (by kernel_rfl) (by kernel_rfl) λvs v h' h=>?_;obtain ⟨n,f,m,g,ha,h⟩:=Kl h;obtain ⟨hn,h⟩:=Ab h;cases Aa h;have hn:n <= 4611686018427387904:=of_decide_eq_true hn;have hx:=AZ Ix AcF (G:=Gl);refine ⟨[Ao n f,Ao m g],cxA Gl tbZ AcF,_,ha,rfl,hx.1,hx.2,?_,As.refl _⟩;unfold Gx;cases hm:ieq (Int.ofNat n) (Int.ofNat m) with
 | false=>exact DW.ok (.k (eN hm) <| .l) (by kernel_rfl)
 | true =>
  obtain rfl:n=m:=Int.ofNat.inj (Cu hm);have go:∀ i,i<n->(g62 n f g i ()).sem=sel (eqE (f i) (g i)) (some (.inl ())) (some (.inr (AaU n f g i ()))):=λi _=>rfl;show (AM (Au tab (cxA Gl tbZ AcF) Tryz.f62 [Ao n f,Ao n g] [])).sem=some (bV (FG f g n 0),[]);rw [X2];cases h1:DL n λi=>eqE (f i) (g i) with
  | true=>exact DW.ok (.k (eN hm) <| .a (r62 (C3 AcF) n f g hn (j:=λ_=>.und) (Zs go h1)) .l) (by kernel_rfl)
  | false=>exact DW.ok (.k (eN hm) <| .a (r62 (C3 AcF) n f g hn (j:=λ_=>.und) (Ah5 (x:=AaU n f g 0 ()) go h1)) .l) (by kernel_rfl)
def isB (a:Int) (k:Nat) (f:Nat->E6):Bool:=sel (ieq (Gr a k f).1 0) (sel (Bv k f) (Gx k (Mx k f) k f) false) false
def isT:List V->A3
 | [w,c]=>apS w λa _ _ _ _ _=>apL c λk f=>.br (BZ k) (.leaf (bV (isB a k f),[])) .fail
 | _=>.fail
noncomputable def AkF:AD:=(61,Um)::(59,QC)::(62,Kx)::[]
theorem AeP:Al Tryz.prog Gl AkF:=.cons p48 <| .cons p65 <| .cons p62 <| .nil
theorem p75:Ar Tryz.prog Gl 75 isT:=by
 refine Ah A0 mixed Tryz.func75 (by kernel_rfl) (by kernel_rfl) λvs v0 h' h=>?_;unfold isT at h;split at h
 rotate_left
 ·cases h
 rename_i w c;obtain ⟨a,n,m,v,L,x,ha,h⟩:=JB h;obtain ⟨k,f,hc,h⟩:=Bb h;obtain ⟨hk,h⟩:=Ab h;cases Aa h;have hx:=AZ AeP [] (G:=Gl);refine ⟨[.pp (.agg [iV a,iV n,Ao m v,Co L x]),Ao k f],cxA Gl AkF [],_,λS w cs hq=>by
  obtain ⟨c,l,rfl,q1,c2,l2,rfl,q2,q3⟩:=hq;exact ⟨c,_,rfl,ha S w c q1,c2,_,rfl,hc S w c2 q2,q3⟩,rfl,hx.1,hx.2,?_,As.refl _⟩
 unfold isB;cases h1:ieq (Gr a k f).1 0 with
 | false=>exact DW.ok (.k (eL k) <| .k hk <| .k (eN h1) <| .l) (by kernel_rfl)
 | true =>
  cases h2:Bv k f with
  | true=>exact DW.ok (.k (eL k) <| .k hk <| .k (eN h1) <| .k (eL k) <| .k hk <| .k h2 <| .r 3 (eI 0) <| .r 2 (eL k) <| .k (decide_eq_true (Ee (HJ hk))) <| .k (eI 0) <| .l) (by kernel_rfl)
  | false=>exact DW.ok (.k (eL k) <| .k hk <| .k (eN h1) <| .k (eL k) <| .k hk <| .k h2 <| .r 4 (show ieq 30 0=false from rfl) <| .l) (by kernel_rfl)
end Go.Proofs.YtkbgidbledjejaaGreat.En
