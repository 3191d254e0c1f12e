/-
  Check, the program's and the document's: one answer. No conditions.
-/
import Derived.Test.YtkbafjceglhjhaaGreatDoorSyY
import Derived.Test.YtkbafjceglhjhaaGreatDoorEdY
import Derived.Test.YtkbafjceglhjhaaGreatDoorCyT
namespace Go.Proofs.YtkbafjceglhjhaaGreatDoor.Ed
open Go.Sy
open Int (ofNat)
noncomputable def Yr:A9:=(121,BV λe=>iV (Bg e))::(151,ap2 gI toE λa e=>out (Ov a e))::(152,BV λe=>bV (A4 e))::(153,BV λe=>bV (AB e))::(154,Rs)::(155,Rr)::(156,AcH)::[]
theorem AdE:Ao Tryz.prog Gl Yr:=.cons p29 <| .cons p33 <| .cons p60 <| .cons p61 <| .cons p94 <| .cons p95 <| .cons p96 .nil
def IJ (n:Nat) (f:Nat->E6):Int:=ofNat (Ak (λk=>A4 (f k)) n)
def JU (n:Nat) (f:Nat->E6):Int:=ofNat (Ak (λk=>AB (f k)) n)
def Wu (n:Nat) (f:Nat->E6):Int×Int :=
 match crR n (A7 (λk=>AB (f k)) n) (λi=>isW (f i)) 2 with
 | (i,true)=>(44,i)
 | (_,false)=>match crR n (A7 (λk=>A4 (f k)) n) (λ_=>true) 12 with
   | (i,true)=>(45,i)
   | (_,false)=>(0,0)
def U5 (n:Nat) (f:Nat->E6):Int×Int :=
 match ilt (IJ n f) 2,ilt (JU n f) 2 with
 | true,_=>(42,0)
 | false,true=>(43,0)
 | false,false=>Wu n f
def MN (a:Int) (n:Nat) (f:Nat->E6):Int×Int :=
 match ilt (ofNat n) 2,ilt 16 (ofNat n) with
 | true,_=>(40,0)
 | false,true=>(40,0)
 | false,false=>match II a n f,ieq (II a n f).1 0 with
  | r,false=>r
  | _,true=>U5 n f
def OV (a:Int) (n:Nat) (f:Nat->E6):Int×Int :=
 match ieq a 1,ieq a 2 with
 | false,false=>(1,0)
 | _,_=>MN a n f
def U4:List V->A3
 | [.val (.int .i64 a),v]=>apL v λn f=>.br (CU n) (out (.tup [iV (OV a n f).1,iV (OV a n f).2])) .fail
 | _=>.fail
theorem XP {a:Int} {n:Nat} {f:Nat->E6} (h:ieq a 1=true ∨ ieq a 2=true):OV a n f=MN a n f:=by
 unfold OV;rcases h with h | h
 ·rw [h]
 ·rw [h]
  cases ieq a 1 <;> rfl
theorem Apr {n:Nat} (h:CU n=true):EA 8 (ofNat n) (ofNat n)=true:=by
 have:=JO h;simp only [EA,Bool.and_eq_true,decide_eq_true_eq,Int.ofNat_eq_natCast];omega
theorem AjH {i n:Nat} (h:i<n) (hn:n <= 4611686018427387904):Aj (ile 0 (Aq (wr .i64 (Ah (ofNat i) 1)) (ofNat n))) (ilt (Aq (wr .i64 (Ah (ofNat i) 1)) (ofNat n)) (ofNat n))=true:=by
 rw [Oa h hn];exact Ae (Nat.mod_lt _ (by omega))
def Ana:Lp:=⟨bmK 133 0 [0,1,4,5,6,7,8,9],0,bmK 133 0 [1,4,5,6,7,8],0,4611686018427387905⟩
def S52 (a0:Int) (n:Nat) (f:Nat->E6) (c:Int) (a:Int×Int) (j:Nat->V):St:=⟨jsV 133 0 j [(0,iV a0),(1,.sl 6 n (λi=>eV (f i))),(4,iV 0),(5,iV 0),(6,nV n),(7,iV a.1),(8,iV a.2),(9,iV c)],[]⟩
noncomputable def B52 (L:LT):St->T (Ex×St):=λst=>A8 tab ⟨Ax Yr,L,Gl⟩ (As Tryz.f107 0) 0 st
def Z5 (a0:Int) (n:Nat) (f:Nat->E6) (i:Nat) (a:Int×Int):Ex×St:=(.rt,⟨jsV 133 0 Ab [(1,.sl 6 n (λi=>eV (f i))),(4,iV 5),(5,nV i),(6,nV n),(7,iV a.1),(8,iV a.2)],[]⟩)
def Z4 (a0:Int) (n:Nat) (f:Nat->E6) (i:Nat) (a:Int×Int):Ex×St:=(.rt,⟨jsV 133 0 Ab [(1,.sl 6 n (λi=>eV (f i))),(4,iV 30),(5,nV i),(6,nV n),(7,iV a.1),(8,iV a.2)],[]⟩)
def g52 (a0:Int) (n:Nat) (f:Nat->E6) (i:Nat) (a:Int×Int):T ((Int×Int) ⊕ (Ex×St)):=.br (ieq (Bg (f i)) 0) (.br (MK a0 (f i)) (.br (A4 (f i)) (.br (AB (f i)) (.leaf (.inl ((wr .i64 (Ah a.1 1)),wr .i64 (Ah a.2 1)))) (.leaf (.inl ((wr .i64 (Ah a.1 1)),a.2)))) (.br (AB (f i)) (.leaf (.inl (a.1,wr .i64 (Ah a.2 1)))) (.leaf (.inl (a.1,a.2))))) (.leaf (.inr (Z5 a0 n f i a)))) (.leaf (.inr (Z4 a0 n f i a)))
def VX (a0:Int) (n:Nat) (f:Nat->E6) (a:Int×Int):Ex×St:=(.ex 0,⟨jsV 133 0 Ab [(1,.sl 6 n (λi=>eV (f i))),(4,iV 0),(5,iV 0),(6,nV n),(7,iV a.1),(8,iV a.2)],[]⟩)
theorem r52 (L:LT) (a0:Int) (n:Nat) (f:Nat->E6)  (hn:n <= 4611686018427387904) {e:Ex×St} {a:Int×Int} {j:Nat->V} (h:Ch (g52 a0 n f) (VX a0 n f) n 0 a=some e):(Au (B52 L) Ana 4611686018427387905 (S52 a0 n f 0 a j)).sem=some (exR e) :=
 AT BA hn (λi a j r hi h=>DK.ok (L:=goR (S52 a0 n f) exR i) (.k (ofNat_lt hi) <| .k (Ae hi) <| .c (λh1=>.k (eN h1) <| .k (Ae hi) <| .c (λh2=>.k (eN h2) <| .k (Ae hi) <| .c (λh3=>.k h3 <| .k (Ae hi) <| .c (λh4=>.k h4 <| .l) λh4=>.k h4 <| .l) λh3=>.k h3 <| .k (Ae hi) <| .c (λh5=>.k h5 <| .l) λh5=>.k h5 <| .l) λh2=>.k (eN h2) <| .l) λh1=>.k (eN h1) <| .l) (by kernel_rfl) h) (λa j=>DK.ok (C:=.leaf (VX a0 n f a)) (L:=exR) (.k (Az (Nat.le_refl n)) .l) (by kernel_rfl) rfl) (Nat.zero_add _).symm (Nat.lt_succ_of_le hn) h
def Abh:Lp:=⟨bmK 133 0 [1,4,5,6,7,8,12],0,bmK 133 0 [1,4,5,6,7,8],0,4611686018427387905⟩
def AhB (a0:Int) (n:Nat) (f:Nat->E6) (c:Int) (a:Int×Int) (j:Nat->V):St:=⟨jsV 133 0 j [(1,.sl 6 n (λi=>eV (f i))),(4,iV 0),(5,iV 0),(6,nV n),(7,iV a.1),(8,iV a.2),(12,iV c)],[]⟩
noncomputable def Aoy (L:LT):St->T (Ex×St):=λst=>A8 tab ⟨Ax Yr,L,Gl⟩ (As Tryz.f107 2) 2 st
def Kh (a0:Int) (n:Nat) (f:Nat->E6) (i:Nat) (a:Int×Int):Ex×St:=(.rt,⟨jsV 133 0 Ab [(1,.sl 6 n (λi=>eV (f i))),(4,iV 41),(5,nV i),(6,nV n),(7,iV a.1),(8,iV a.2)],[]⟩)
def Ug (a0:Int) (n:Nat) (f:Nat->E6) (i:Nat) (a:Int×Int):T ((Int×Int) ⊕ (Ex×St)):=.br (ieq (f i).dst (f (toN (Aq (wr .i64 (Ah (ofNat i) 1)) (ofNat n)))).src) (.leaf (.inl (a.1,a.2))) (.leaf (.inr (Kh a0 n f i a)))
def OD (a0:Int) (n:Nat) (f:Nat->E6) (a:Int×Int):Ex×St:=(.ex 2,⟨jsV 133 0 Ab [(1,.sl 6 n (λi=>eV (f i))),(4,iV 0),(5,iV 0),(6,nV n),(7,iV a.1),(8,iV a.2)],[]⟩)
theorem AgM (L:LT) (a0:Int) (n:Nat) (f:Nat->E6)  (hn:n <= 4611686018427387904) {e:Ex×St} {a:Int×Int} {j:Nat->V} (h:Ch (Ug a0 n f) (OD a0 n f) n 0 a=some e):(Au (Aoy L) Abh 4611686018427387905 (AhB a0 n f 0 a j)).sem=some (exR e) :=
 AT BA hn (λi a j r hi h=>DK.ok (L:=goR (AhB a0 n f) exR i) (.k (ofNat_lt hi) <| .k (Ae hi) <| .k (HH hi) <| .k (AjH hi hn) <| .c (λh1=>.k (eN h1) <| .l) λh1=>.k (eN h1) <| .l) (by kernel_rfl) h) (λa j=>DK.ok (C:=.leaf (OD a0 n f a)) (L:=exR) (.k (Az (Nat.le_refl n)) .l) (by kernel_rfl) rfl) (Nat.zero_add _).symm (Nat.lt_succ_of_le hn) h
def Abg:Lp:=⟨bmK 133 0 [1,4,5,6,13,14,15],2,bmK 133 0 [1,4,5,6,13],2,4611686018427387905⟩
def AhA (a0:Int) (n:Nat) (f:Nat->E6) (c:Int) (a:(Nat->Int)×(Nat->Int)) (j:Nat->V):St:=⟨jsV 133 0 j [(1,.sl 6 n (λi=>eV (f i))),(4,iV 0),(5,iV 0),(6,nV n),(13,.ref 0),(14,.ref 1),(15,iV c)],[.row 3 1 n (λk=>iV (a.1 k)),.row 3 1 n (λk=>iV (a.2 k))]⟩
noncomputable def Aox (L:LT):St->T (Ex×St):=λst=>A8 tab ⟨Ax Yr,L,Gl⟩ (As Tryz.f107 4) 4 st
def Kg (a0:Int) (n:Nat) (f:Nat->E6) (i:Nat) (a:(Nat->Int)×(Nat->Int)):Ex×St:=(.rt,⟨jsV 133 0 Ab [(1,.sl 6 n (λi=>eV (f i))),(4,iV 44),(5,nV i),(6,nV n),(13,.ref 0)],[.row 3 1 n (λk=>iV (a.1 k)),.row 3 1 n (λk=>iV (a.2 k))]⟩)
def X9 (a0:Int) (n:Nat) (f:Nat->E6) (i:Nat) (a:(Nat->Int)×(Nat->Int)):T (((Nat->Int)×(Nat->Int)) ⊕ (Ex×St)):=.br (ieq (f i).src 2) (.br (ilt 2 (OU n a.2 (λi=>bor (AQ true) (isW (f i))) (a.2 i))) (.leaf (.inr (Kg a0 n f i a))) (.leaf (.inl (a.1,a.2)))) (.leaf (.inl (a.1,a.2)))
def OC (a0:Int) (n:Nat) (f:Nat->E6) (a:(Nat->Int)×(Nat->Int)):Ex×St:=(.ex 4,⟨jsV 133 0 Ab [(1,.sl 6 n (λi=>eV (f i))),(4,iV 0),(5,iV 0),(6,nV n),(13,.ref 0)],[.row 3 1 n (λk=>iV (a.1 k)),.row 3 1 n (λk=>iV (a.2 k))]⟩)
theorem AgL (L:LT) (a0:Int) (n:Nat) (f:Nat->E6)  (hn:n <= 4611686018427387904) {e:Ex×St} {a:(Nat->Int)×(Nat->Int)} {j:Nat->V} (h:Ch (X9 a0 n f) (OC a0 n f) n 0 a=some e):(Au (Aox L) Abg 4611686018427387905 (AhA a0 n f 0 a j)).sem=some (exR e) :=
 AT BA hn (λi a j r hi h=>DK.ok (L:=goR (AhA a0 n f) exR i) (.k (ofNat_lt hi) <| .k (Ae hi) <| .c (λh1=>.r 5 h1 <| .k (Ae hi) <| .k h1 <| .k (decide_eq_true hi) <| .k h1 <| .r 2 (eL n) <| .k (eJ n) <| .k (decide_eq_true hn) <| .r 2 h1 <| .c (λh2=>.k h2 <| .l) λh2=>.k h2 <| .l) λh1=>.r 9 h1 <| .k eF <| .l) (by kernel_rfl) h) (λa j=>DK.ok (C:=.leaf (OC a0 n f a)) (L:=exR) (.k (Az (Nat.le_refl n)) .l) (by kernel_rfl) rfl) (Nat.zero_add _).symm (Nat.lt_succ_of_le hn) h
def Abf:Lp:=⟨bmK 133 0 [1,4,5,6,13,16],2,bmK 133 0 [4,5],0,4611686018427387905⟩
def Ah9 (a0:Int) (n:Nat) (f:Nat->E6) (c:Int) (a:(Nat->Int)×(Nat->Int)) (j:Nat->V):St:=⟨jsV 133 0 j [(1,.sl 6 n (λi=>eV (f i))),(4,iV 0),(5,iV 0),(6,nV n),(13,.ref 0),(16,iV c)],[.row 3 1 n (λk=>iV (a.1 k)),.row 3 1 n (λk=>iV (a.2 k))]⟩
noncomputable def Aow (L:LT):St->T (Ex×St):=λst=>A8 tab ⟨Ax Yr,L,Gl⟩ (As Tryz.f107 6) 6 st
def Kf (a0:Int) (n:Nat) (f:Nat->E6) (i:Nat) (a:(Nat->Int)×(Nat->Int)):Ex×St:=(.rt,⟨jsV 133 0 Ab [(4,iV 45),(5,nV i)],[]⟩)
def X8 (a0:Int) (n:Nat) (f:Nat->E6) (i:Nat) (a:(Nat->Int)×(Nat->Int)):T (((Nat->Int)×(Nat->Int)) ⊕ (Ex×St)):=.br (ilt 12 (OU n a.1 (λi=>bor (AQ false) (isW (f i))) (a.1 i))) (.leaf (.inr (Kf a0 n f i a))) (.leaf (.inl (a.1,a.2)))
def OB (a0:Int) (n:Nat) (f:Nat->E6) (a:(Nat->Int)×(Nat->Int)):Ex×St:=(.ex 6,⟨jsV 133 0 Ab [(4,iV 0),(5,iV 0)],[]⟩)
theorem AgK (L:LT) (a0:Int) (n:Nat) (f:Nat->E6)  (hn:n <= 4611686018427387904) {e:Ex×St} {a:(Nat->Int)×(Nat->Int)} {j:Nat->V} (h:Ch (X8 a0 n f) (OB a0 n f) n 0 a=some e):(Au (Aow L) Abf 4611686018427387905 (Ah9 a0 n f 0 a j)).sem=some (exR e) :=
 AT BA hn (λi a j r hi h=>DK.ok (L:=goR (Ah9 a0 n f) exR i) (.k (ofNat_lt hi) <| .k (Ae hi) <| .k (decide_eq_true hi) <| .r 2 (eL n) <| .k (eJ n) <| .k (decide_eq_true hn) <| .c (λh1=>.k h1 <| .l) λh1=>.k h1 <| .l) (by kernel_rfl) h) (λa j=>DK.ok (C:=.leaf (OB a0 n f a)) (L:=exR) (.k (Az (Nat.le_refl n)) .l) (by kernel_rfl) rfl) (Nat.zero_add _).symm (Nat.lt_succ_of_le hn) h
def Oe:List (Nat×Lp×List (Nat×(Nat->V))):=[(0,Ana,[]),(2,Abh,[]),(4,Abg,[]),(6,Abf,[])]
abbrev pO (n:Nat) (f:Nat->E6):Nat->Int:=A7 (λk=>A4 (f k)) n
abbrev pM (n:Nat) (f:Nat->E6):Nat->Int:=A7 (λk=>AB (f k)) n
abbrev Aop (n:Nat) (f:Nat->E6):Int×Int:=(IJ n f,JU n f)
abbrev Aga (n:Nat) (f:Nat->E6):(Nat->Int)×(Nat->Int):=(pO n f,pM n f)
theorem AbB {a:Int} {e:E6} (h:B7 a=true):GW a e=Bg e:=by unfold GW; rw [h]; rfl
theorem kn1 {a:Int} (h:ieq a 1=true):B7 a=true:=by unfold B7; rw [h]; rfl
theorem kn2 {a:Int} (h:ieq a 2=true):B7 a=true:=by unfold B7; rw [h]; cases ieq a 1 <;> rfl
section
variable {a0:Int} {n:Nat} {f:Nat->E6}
def PE (f:Nat->E6) (i:Nat):Int×Int:=(ofNat (Ak (λk=>A4 (f k)) i),ofNat (Ak (λk=>AB (f k)) i))
def AcW (a0:Int) (n:Nat) (f:Nat->E6) (i:Nat):Ex×St:=sel (ieq (GW a0 (f i)) 0) (Z5 a0 n f i (PE f i)) (Z4 a0 n f i (PE f i))
theorem c52 (hK:B7 a0=true) (hn:n <= 4611686018427387904) {i:Nat} (hi:i<n) (h:D9 a0 f i=false):(g52 a0 n f i (PE f i)).sem=some (.inl (PE f (i+1))):=by
 have h1:=BK (λk=>A4 (f k)) i;have h2:=BK (λk=>AB (f k)) i;unfold D9 at h;rw [AbB hK] at h;have w1:=Eu (show Ak (λk=>A4 (f k)) i<n by omega) hn;have w2:=Eu (show Ak (λk=>AB (f k)) i<n by omega) hn;show sel (ieq (Bg (f i)) 0) _ _=_;cases e1:ieq (Bg (f i)) 0 with
 | false=>rw [e1] at h; cases h
 | true =>
  show sel (MK a0 (f i)) _ _=_;cases e2:MK a0 (f i) with
  | false=>rw [e1,e2] at h; cases h
  | true =>
   show sel (A4 (f i)) (sel (AB (f i)) (some _) (some _)) (sel (AB (f i)) (some _) (some _))=some (Sum.inl (ofNat (match A4 (f i) with
    | true=>Ak (λk=>A4 (f k)) i+1
    | false=>Ak (λk=>A4 (f k)) i),ofNat (match AB (f i) with
    | true=>Ak (λk=>AB (f k)) i+1
    | false=>Ak (λk=>AB (f k)) i)))
   cases A4 (f i) <;> cases AB (f i) <;> simp only [sel,PE,w1,w2] <;> rfl
theorem t52 (hK:B7 a0=true) {i:Nat} (h:D9 a0 f i=true):(g52 a0 n f i (PE f i)).sem=some (.inr (AcW a0 n f i)):=by
 unfold D9 at h;unfold AcW;rw [AbB hK] at h ⊢;show sel (ieq (Bg (f i)) 0) _ _=_;cases e1:ieq (Bg (f i)) 0 with
 | false=>rfl
 | true =>
  show sel (MK a0 (f i)) _ _=_;cases e2:MK a0 (f i) with
  | false=>rfl
  | true=>rw [e1,e2] at h; cases h
theorem Ap9 (hK:B7 a0=true) (hn:n <= 4611686018427387904) (h:isN (AO (D9 a0 f) n 0)=true):Ch (g52 a0 n f) (VX a0 n f) n 0 (0,0)=some (VX a0 n f (IJ n f,JU n f)):=OI (acc:=PE f) (λ_ hi=>c52 hK hn hi) (λ_ _=>t52 hK) h
theorem AnI (hK:B7 a0=true) (hn:n <= 4611686018427387904) (h:isN (AO (D9 a0 f) n 0)=false):Ch (g52 a0 n f) (VX a0 n f) n 0 (0,0)=some (AcW a0 n f (tO (D9 a0 f) n)):=OH (acc:=PE f) (λ_ hi=>c52 hK hn hi) (λ_ _=>t52 hK) h
theorem ApB (hK:B7 a0=true) (hn:n <= 4611686018427387904) (h:isN (AO (D9 a0 f) n 0)=false) (g:ieq (GW a0 (f (tO (D9 a0 f) n))) 0=true):Ch (g52 a0 n f) (VX a0 n f) n 0 (0,0)=some (Z5 a0 n f (tO (D9 a0 f) n) (PE f (tO (D9 a0 f) n))):=by rw [AnI hK hn h,AcW,g]; rfl
theorem ApA (hK:B7 a0=true) (hn:n <= 4611686018427387904) (h:isN (AO (D9 a0 f) n 0)=false) (g:ieq (GW a0 (f (tO (D9 a0 f) n))) 0=false):Ch (g52 a0 n f) (VX a0 n f) n 0 (0,0)=some (Z4 a0 n f (tO (D9 a0 f) n) (PE f (tO (D9 a0 f) n))):=by rw [AnI hK hn h,AcW,g]; rfl
theorem XV (hn:n <= 4611686018427387904) {a:Int×Int} {i:Nat} (hi:i<n):(Ug a0 n f i a).sem=sel (Gw n f i) (some (.inr (Kh a0 n f i a))) (some (.inl a)):=by
 unfold Ug Gw;rw [Oa hi hn,show toN (ofNat ((i+1) % n))=(i+1) % n from rfl];cases ieq (f i).dst (f ((i+1) % n)).src <;> rfl
theorem Ap8 (hn:n <= 4611686018427387904) {a:Int×Int} (h:isN (AO (Gw n f) n 0)=true):Ch (Ug a0 n f) (OD a0 n f) n 0 a=some (OD a0 n f a):=OI (acc:=λ_=>a) (x:=λi=>Kh a0 n f i a) (λi hi hq=>by rw [XV hn hi,hq]; rfl) (λi hi hq=>by rw [XV hn hi,hq]; rfl) h
theorem Ap7 (hn:n <= 4611686018427387904) {a:Int×Int} (h:isN (AO (Gw n f) n 0)=false):Ch (Ug a0 n f) (OD a0 n f) n 0 a=some (Kh a0 n f (tO (Gw n f) n) a):=OH (acc:=λ_=>a) (x:=λi=>Kh a0 n f i a) (λi hi hq=>by rw [XV hn hi,hq]; rfl) (λi hi hq=>by rw [XV hn hi,hq]; rfl) h
theorem XU {a:(Nat->Int)×(Nat->Int)} {i:Nat}:(X9 a0 n f i a).sem=sel (Ba n a.2 (λi=>isW (f i)) 2 i) (some (.inr (Kg a0 n f i a))) (some (.inl a)):=by
 show sel (isW (f i)) _ _=sel (Aj (isW (f i)) _) _ _;cases isW (f i) <;> rfl
theorem Ap6 {a:(Nat->Int)×(Nat->Int)} (h:isN (AO (Ba n a.2 (λi=>isW (f i)) 2) n 0)=true):Ch (X9 a0 n f) (OC a0 n f) n 0 a=some (OC a0 n f a):=OI (acc:=λ_=>a) (x:=λi=>Kg a0 n f i a) (λi _ hq=>by rw [XU,hq]; rfl) (λi _ hq=>by rw [XU,hq]; rfl) h
theorem Ap5 {a:(Nat->Int)×(Nat->Int)} (h:isN (AO (Ba n a.2 (λi=>isW (f i)) 2) n 0)=false):Ch (X9 a0 n f) (OC a0 n f) n 0 a=some (Kg a0 n f (tO (Ba n a.2 (λi=>isW (f i)) 2) n) a):=OH (acc:=λ_=>a) (x:=λi=>Kg a0 n f i a) (λi _ hq=>by rw [XU,hq]; rfl) (λi _ hq=>by rw [XU,hq]; rfl) h
theorem XT {a:(Nat->Int)×(Nat->Int)} {i:Nat}:(X8 a0 n f i a).sem=sel (Ba n a.1 (λ_=>true) 12 i) (some (.inr (Kf a0 n f i a))) (some (.inl a)):=rfl
theorem Ap3 {a:(Nat->Int)×(Nat->Int)} (h:isN (AO (Ba n a.1 (λ_=>true) 12) n 0)=true):Ch (X8 a0 n f) (OB a0 n f) n 0 a=some (OB a0 n f a):=OI (acc:=λ_=>a) (x:=λi=>Kf a0 n f i a) (λi _ hq=>by rw [XT,hq]; rfl) (λi _ hq=>by rw [XT,hq]; rfl) h
theorem Ap2 {a:(Nat->Int)×(Nat->Int)} (h:isN (AO (Ba n a.1 (λ_=>true) 12) n 0)=false):Ch (X8 a0 n f) (OB a0 n f) n 0 a=some (Kf a0 n f (tO (Ba n a.1 (λ_=>true) 12) n) a):=OH (acc:=λ_=>a) (x:=λi=>Kf a0 n f i a) (λi _ hq=>by rw [XT,hq]; rfl) (λi _ hq=>by rw [XT,hq]; rfl) h
end
def C52 (a0:Int) (n:Nat) (f:Nat->E6):A3:=.br (ilt (ofNat n) 2) (.leaf ((.tup [iV 40,iV 0]),[])) (.br (ilt 16 (ofNat n)) (.leaf ((.tup [iV 40,iV 0]),[])) (.br (isN (AO (D9 a0 f) n 0)) (.br (isN (AO (Gw n f) n 0)) (.br (ilt (IJ n f) 2) (.leaf ((.tup [iV 42,iV 0]),[])) (.br (ilt (JU n f) 2) (.leaf ((.tup [iV 43,iV 0]),[])) (.br (isN (AO (Ba n (pM n f) (λi=>isW (f i)) 2) n 0)) (.br (isN (AO (Ba n (pO n f) (λ_=>true) 12) n 0)) (.leaf ((.tup [iV 0,iV 0]),[])) (.leaf ((.tup [iV 45,nO (Ba n (pO n f) (λ_=>true) 12) n]),[]))) (.leaf ((.tup [iV 44,nO (Ba n (pM n f) (λi=>isW (f i)) 2) n]),[]))))) (.leaf ((.tup [iV 41,nO (Gw n f) n]),[]))) (.br (ieq (GW a0 (f (tO (D9 a0 f) n))) 0) (.leaf ((.tup [iV 5,nO (D9 a0 f) n]),[])) (.leaf ((.tup [iV 30,nO (D9 a0 f) n]),[])))))
theorem Ags (a0:Int) (n:Nat) (f:Nat->E6):(C52 a0 n f).sem=some (.tup [iV (MN a0 n f).1,iV (MN a0 n f).2],[]):=by
 unfold C52 MN II U5 Wu crR nO tO;cases ilt (ofNat n) 2 with
 | true=>rfl
 | false =>
  cases ilt 16 (ofNat n) with
  | true=>rfl
  | false =>
   cases AO (D9 a0 f) n 0 with
   | some t =>show sel (ieq (GW a0 (f t)) 0) _ _=_;cases e:ieq (GW a0 (f t)) 0 <;> simp only [e] <;> rfl
   | none =>
    cases AO (Gw n f) n 0 with
    | some t=>rfl
    | none =>
     show sel (ilt (IJ n f) 2) _ _=some (V.tup [iV (match ilt (IJ n f) 2,ilt (JU n f) 2 with
      | true,_=>((42:Int),(0:Int))
      | false,true=>(43,0)
      | false,false=>_).1,iV (match ilt (IJ n f) 2,ilt (JU n f) 2 with
      | true,_=>((42:Int),(0:Int))
      | false,true=>(43,0)
      | false,false=>_).2],[])
     cases ilt (IJ n f) 2 with
     | true=>rfl
     | false =>
      cases ilt (JU n f) 2 with
      | true=>rfl
      | false =>
       cases AO (Ba n (A7 (λk=>AB (f k)) n) (λi=>isW (f i)) 2) n 0 with
       | some t=>rfl
       | none=>cases AO (Ba n (A7 (λk=>A4 (f k)) n) (λ_=>true) 12) n 0 <;> rfl
def Ah0 (a:Int) (C:A3):A3:=.br (ieq a 1) C (.br (ieq a 2) C (.leaf (.tup [iV 1,iV 0],[])))
theorem QJ {a:Int} {n:Nat} {f:Nat->E6} {C:A3} (h:C.sem=some (.tup [iV (MN a n f).1,iV (MN a n f).2],[])):(Ah0 a C).sem=some (.tup [iV (OV a n f).1,iV (OV a n f).2],[]):=by
 unfold Ah0 OV;cases ieq a 1 with
 | true=>exact h
 | false =>
  cases ieq a 2 with
  | true=>exact h
  | false=>rfl
theorem p49:An Tryz.prog Gl 107 U4:=by
 refine Al A2 mixed Tryz.func107 (by kernel_rfl) (by kernel_rfl) λvs v h' h=>?_;unfold U4 at h;split at h
 ·rename_i a0 u
  obtain ⟨n,f,ha,h1⟩:=Cz h;obtain ⟨hF,hq⟩:=Ac h1;have:=Aa hq;simp only [Prod.mk.injEq] at this;obtain ⟨rfl,rfl⟩:=this;have hn:n <= 4611686018427387904:=Eh (Hb hF);have hx:=AU AdE Oe (G:=Gl);have w:=λ(hK:B7 a0=true)=>show DK (λa=>a) (C52 a0 n f) _ from .c (λh1=>.r 3 h1 <| .k eT <| .l) λh1=>.r 3 h1 <| .c (λh2=>.k h2 <| .l) λh2=>.k h2 <| .c (λh3=>.a (r52 (askL Oe) a0 n f hn (j:=λ_=>.und) (Ap9 hK hn h3)) <| .c (λh4=>.a (AgM (askL Oe) a0 n f hn (j:=λ_=>.und) (Ap8 (a:=Aop n f) hn h4)) <| .c (λh5=>.k h5 <| .l) λh5=>.k h5 <| .c (λh6=>.k h6 <| .l) λh6=>.k h6 <| .k (eL n) <| .k hF <| .k (eL n) <| .k hF <| .c (λh7=>.a (AgL (askL Oe) a0 n f hn (j:=λ_=>.und) (Ap6 (a:=Aga n f) h7)) <| .c (λh8=>.a (AgK (askL Oe) a0 n f hn (j:=λ_=>.und) (Ap3 (a:=Aga n f) h8)) <| .l) λh8=>.a (AgK (askL Oe) a0 n f hn (j:=λ_=>.und) (Ap2 (a:=Aga n f) h8)) <| .l) λh7=>.a (AgL (askL Oe) a0 n f hn (j:=λ_=>.und) (Ap5 (a:=Aga n f) h7)) <| .l) λh4=>.a (AgM (askL Oe) a0 n f hn (j:=λ_=>.und) (Ap7 (a:=Aop n f) hn h4)) <| .l) λh3=>.c (λg=>.a (r52 (askL Oe) a0 n f hn (j:=λ_=>.und) (ApB hK hn h3 g)) .l) λg=>.a (r52 (askL Oe) a0 n f hn (j:=λ_=>.und) (ApA hK hn h3 g)) .l
  exact ⟨_,cxA Gl Yr Oe,_,W2 ha,rfl,hx.1,hx.2,DK.of (QJ (Ags a0 n f)) (.c (λh1=>.k (eN h1) <| .k (eN h1) <| .k (eN h1) <| .k eF (w (kn1 h1))) λh1=>.k (eN h1) <| .k (eN h1) <| .k (eN h1) <| .c (λh2=>.k (eN h2) (w (kn2 h2))) λh2=>.k (eN h2) .l) (by kernel_rfl),Ap.refl _⟩
 ·cases h
noncomputable def Alq:A9:=(169,Akn)::(170,Wt)::(175,V7)::(174,Ws)::[]
theorem AdF:Ao Tryz.prog Gl Alq:=.cons p86 <| .cons p87 <| .cons p92 <| .cons p91 .nil
def AnS (a:Int) (n:Nat) (f:Nat->E6):Int:=(II a n f).1
def ApD (a:Int) (n:Nat) (f:Nat->E6):Int:=(II a n f).2
def crI (n:Nat) (l:Nat->Int) (c:Nat->Bool) (q:Int):Int:=(crR n l c q).1
def crB (n:Nat) (l:Nat->Int) (c:Nat->Bool) (q:Int):Bool:=(crR n l c q).2
theorem T0 (p:Nat->Bool) (n:Nat) (hn:n <= 4611686018427387904):okP n (A7 p n)=true:=AE.2 λi hi=>by
 unfold A7;cases decide (i<n) with
 | false=>rfl
 | true =>
  cases decide (Ak p i=Ak p n) with
  | true=>rfl
  | false =>have:=BK p i;exact Sg (by omega)
def C84 (a0:Int) (n:Nat) (f:Nat->E6):A3:=.br (ilt (ofNat n) 2) (.leaf ((.tup [iV 40,iV 0]),[])) (.br (ilt 16 (ofNat n)) (.leaf ((.tup [iV 40,iV 0]),[])) (.br (ieq (AnS a0 n f) 0) (.br (ilt (IJ n f) 2) (.leaf ((.tup [iV 42,iV 0]),[])) (.br (ilt (JU n f) 2) (.leaf ((.tup [iV 43,iV 0]),[])) (.br (crB n (A7 (λk=>AB (f k)) n) (λi=>isW (f i)) 2) (.leaf ((.tup [iV 44,iV (crI n (A7 (λk=>AB (f k)) n) (λi=>isW (f i)) 2)]),[])) (.br (crB n (A7 (λk=>A4 (f k)) n) (λ_=>true) 12) (.leaf ((.tup [iV 45,iV (crI n (A7 (λk=>A4 (f k)) n) (λ_=>true) 12)]),[])) (.leaf ((.tup [iV 0,iV 0]),[])))))) (.leaf ((.tup [iV (AnS a0 n f),iV (ApD a0 n f)]),[]))))
theorem Ago (a0:Int) (n:Nat) (f:Nat->E6):(C84 a0 n f).sem=some (.tup [iV (MN a0 n f).1,iV (MN a0 n f).2],[]):=by
 unfold C84 MN U5 Wu;cases ilt (ofNat n) 2 with
 | true=>rfl
 | false =>
  cases ilt 16 (ofNat n) with
  | true=>rfl
  | false =>
   show sel (ieq (II a0 n f).1 0) _ _=_;cases e:ieq (II a0 n f).1 0 with
   | false=>rfl
   | true =>
    show sel (ilt (IJ n f) 2) _ _=some (V.tup [iV (match ilt (IJ n f) 2,ilt (JU n f) 2 with
     | true,_=>((42:Int),(0:Int))
     | false,true=>(43,0)
     | false,false=>_).1,iV (match ilt (IJ n f) 2,ilt (JU n f) 2 with
     | true,_=>((42:Int),(0:Int))
     | false,true=>(43,0)
     | false,false=>_).2],[])
    cases ilt (IJ n f) 2 with
    | true=>rfl
    | false =>
     cases ilt (JU n f) 2 with
     | true=>rfl
     | false =>
      show sel (crR n (A7 (λk=>AB (f k)) n) (λi=>isW (f i)) 2).2 (some (V.tup [iV 44,iV (crR n (A7 (λk=>AB (f k)) n) (λi=>isW (f i)) 2).1],[])) (sel (crR n (A7 (λk=>A4 (f k)) n) (λ_=>true) 12).2 (some (V.tup [iV 45,iV (crR n (A7 (λk=>A4 (f k)) n) (λ_=>true) 12).1],[])) _)=_;cases crR n (A7 (λk=>AB (f k)) n) (λi=>isW (f i)) 2 with
      | mk x b =>
       cases b with
       | true=>rfl
       | false =>
        cases crR n (A7 (λk=>A4 (f k)) n) (λ_=>true) 12 with
        | mk x b=>cases b <;> rfl
theorem p48:An Tryz.prog Gl 138 U4:=by
 refine Al A2 mixed Tryz.func138 (by kernel_rfl) (by kernel_rfl) λvs v h' h=>?_;unfold U4 at h;split at h
 ·rename_i a0 u
  obtain ⟨n,f,ha,h1⟩:=Cz h;obtain ⟨hF,hq⟩:=Ac h1;have:=Aa hq;simp only [Prod.mk.injEq] at this;obtain ⟨rfl,rfl⟩:=this;have hn:n <= 4611686018427387904:=Eh (Hb hF);have hk:EA 8 (ofNat n) (ofNat n)=true:=Apr hF;have hx:=Bq AdF [] (G:=Gl);have w:DK (λa=>a) (C84 a0 n f) _:=.c (λh1=>.r 4 h1 <| .k eT <| .l) λh1=>.r 4 h1 <| .c (λh2=>.k h2 <| .l) λh2=>.k h2 <| .k (eL n) <| .k hF <| .c (λh3=>.k (eN h3) <| .k (eL n) <| .k (decide_eq_true hn) <| .c (λh4=>.k h4 <| .l) λh4=>.k h4 <| .k (eL n) <| .k (decide_eq_true hn) <| .c (λh5=>.k h5 <| .l) λh5=>.k h5 <| .k (eL n) <| .k hk <| .r 2 (eL n) <| .k (eJ n) <| .k (decide_eq_true hn) <| .k (T0 (λk=>AB (f k)) n hn) <| .c (λh6=>.k h6 <| .l) λh6=>.k h6 <| .k (eL n) <| .k hk <| .k (eL n) <| .k (decide_eq_true hn) <| .k (T0 (λk=>A4 (f k)) n hn) <| .c (λh7=>.k h7 <| .l) λh7=>.k h7 <| .l) λh3=>.k (eN h3) <| .l
  exact ⟨_,AP Gl Alq [],_,W2 ha,rfl,hx.1,hx.2,DK.of (QJ (Ago a0 n f)) (.c (λh1=>.k (eN h1) <| .k (eN h1) <| .k (eN h1) <| .k eF w) λh1=>.k (eN h1) <| .k (eN h1) <| .k (eN h1) <| .c (λh2=>.k (eN h2) w) λh2=>.k (eN h2) .l) (by kernel_rfl),Ap.refl _⟩
 ·cases h
end Go.Proofs.YtkbafjceglhjhaaGreatDoor.Ed
namespace Go.Proofs.YtkbafjceglhjhaaGreatDoor.Ed
open Go.Sy
def He (a:Int) (n:Nat) (f:Nat->E6):Int:=(OV a n f).1
def Aku (a:Int) (n:Nat) (f:Nat->E6):Int:=(OV a n f).2
end Go.Proofs.YtkbafjceglhjhaaGreatDoor.Ed
namespace Go.Proofs.YtkbafjceglhjhaaGreatDoor.Ed
open Go.Sy
open Int (ofNat)
theorem AeA {K a b:Nat} (c:Nat) (h:a % K=b % K):(a+c) % K=(b+c) % K:=by rw [Nat.add_mod,h,<- Nat.add_mod]
theorem Mx {K a b c:Nat} (hab:a <= b) (h:(a+c) % K=(b+c) % K):a % K=b % K:=by
 have h1:=Nat.sub_mod_eq_zero_of_mod_eq h.symm;rw [show b+c-(a+c)=b-a by omega] at h1;have h2:(a+(b-a)) % K=a % K:=by rw [Nat.add_mod,h1,Nat.add_zero,Nat.mod_mod]
 rw [show a+(b-a)=b by omega] at h2;exact h2.symm
theorem VC {K a b c:Nat} (h:(a+c) % K=(b+c) % K):a % K=b % K:=by
 rcases Nat.le_total a b with h1 | h1
 ·exact Mx h1 h
 ·exact (Mx h1 h.symm).symm
theorem KZ (p:Nat->Bool) (a:Nat):∀ b,Ak p (a+b)=Ak p a+Ak (λi=>p (a+i)) b
 | 0=>rfl
 | b+1=>by
  rw [show a+(b+1)=a+b+1 by omega,Ak,Ak,KZ p a b];cases p (a+b) <;> rfl
theorem QD (p:Nat->Bool) {n k j:Nat} (hk:k<n) (hj:j <= n):Ak p k+Ak (λi=>p ((k+i) % n)) j=if k+j<n then Ak p (k+j) else Ak p n+Ak p (k+j-n):=by
 split
 ·rename_i h
  rw [KZ p k j,Cy (q:=λi=>p ((k+i) % n)) (p:=λi=>p (k+i)) j λi hi=>by rw [Nat.mod_eq_of_lt (by omega)]]
 ·rename_i h
  have e:j=(n-k)+(k+j-n):=by omega
  have h1:=KZ (λi=>p ((k+i) % n)) (n-k) (k+j-n);rw [<- e] at h1;rw [h1,Cy (q:=λi=>p ((k+i) % n)) (p:=λi=>p (k+i)) (n-k) λi hi=>by rw [Nat.mod_eq_of_lt (by omega)],
   Cy (q:=λi=>p ((k+(n-k+i)) % n)) (p:=p) (k+j-n) λi hi=>by rw [show k+(n-k+i)=i+n by omega,Nat.add_mod_right,Nat.mod_eq_of_lt (by omega)]]
  have h2:=KZ p k (n-k);rw [show k+(n-k)=n by omega] at h2;omega
theorem GE (p:Nat->Bool) {n k:Nat} (hk:k<n):Ak (λi=>p ((k+i) % n)) n=Ak p n:=by
 have h:=QD p hk (Nat.le_refl n);rw [if_neg (by omega),show k+n-n=k by omega] at h;omega
theorem Jf (p:Nat->Bool) {n i:Nat} (hi:i<n) (hK:0<Ak p n):A7 p n i=ofNat (Ak p i % Ak p n):=by
 unfold A7;rw [decide_eq_true hi];have:=Bf p (show i <= n by omega);by_cases h:Ak p i=Ak p n
 ·rw [decide_eq_true h,h,Nat.mod_self]
  rfl
 ·rw [decide_eq_false h,Nat.mod_eq_of_lt (by omega)]
  rfl
theorem Tv (p:Nat->Bool) {n k i j:Nat} (hk:k<n) (hK:0<Ak p n) (hi:i<n) (hj:j<n) :
  A7 (λi=>p ((k+i) % n)) n i=A7 (λi=>p ((k+i) % n)) n j↔A7 p n ((k+i) % n)=A7 p n ((k+j) % n):=by
 have hn:0<n:=by omega
 have hT:=GE p hk;have key:∀ i,i<n->(Ak p k+Ak (λi=>p ((k+i) % n)) i) % Ak p n=Ak p ((k+i) % n) % Ak p n:=λi hi=>by
  rw [QD p hk (Nat.le_of_lt hi)];split
  ·rename_i h
   rw [Nat.mod_eq_of_lt h]
  ·rename_i h
   rw [Nat.add_mod_left,show (k+i) % n=k+i-n by rw [show k+i=k+i-n+n by omega,Nat.add_mod_right,Nat.mod_eq_of_lt (by omega)]; omega]
 rw [Jf _ hi (by rw [hT]; exact hK),Jf _ hj (by rw [hT]; exact hK),Jf p (Nat.mod_lt _ hn) hK,Jf p (Nat.mod_lt _ hn) hK,hT,<- key i hi,<- key j hj];constructor
 ·intro h
  have h:=Int.ofNat.inj h;have:=AeA (Ak p k) h;rw [Nat.add_comm _ (Ak p k),Nat.add_comm _ (Ak p k)] at this;rw [this]
 ·intro h
  have h:=Int.ofNat.inj h;rw [Nat.add_comm (Ak p k),Nat.add_comm (Ak p k)] at h;rw [VC h]
theorem CY {q:Nat->Bool}:∀ {d i:Nat},AO q d i=none↔∀ k,i <= k->k<i+d->q k=false
 | 0,i=>⟨λ_ k h1 h2=>by omega,λ_=>rfl⟩
 | d+1,i=>by
  cases hq:q i with
  | true =>rw [E2 hq];refine ⟨λh=>(by cases h),λh=>?_⟩;have:=h i (Nat.le_refl i) (by omega);rw [hq] at this;cases this
  | false =>
   rw [E3 hq,CY];refine ⟨λh k h1 h2=>?_,λh k h1 h2=>h k (by omega) (by omega)⟩;by_cases e:k=i
   ·rw [e]; exact hq
   ·exact h k (by omega) (by omega)
structure IsCycle (a:Int) (n:Nat) (f:Nat->E6):Prop where
 arch:ieq a 1=true ∨ ieq a 2=true
 lo:2 <= n
 hi:n <= 16
 legal:∀ i,i<n->D9 a f i=false
 meets:∀ i,i<n->Gw n f i=false
 outer:2 <= Ak (λk=>A4 (f k)) n
 moves:2 <= Ak (λk=>AB (f k)) n
 writes:∀ i,i<n->Ba n (A7 (λk=>AB (f k)) n) (λi=>isW (f i)) 2 i=false
 crowd:∀ i,i<n->Ba n (A7 (λk=>A4 (f k)) n) (λ_=>true) 12 i=false
theorem U0 {n:Nat} {l:Nat->Int} {c:Nat->Bool} {q:Int} (h:∀ i,i<n->Ba n l c q i=false):crR n l c q=(0,false):=by
 unfold crR;rw [CY.2 λk _ h2=>h k (by omega)]
theorem Q8 {n:Nat} {l:Nat->Int} {c:Nat->Bool} {q:Int} (h:(crR n l c q).2=false):∀ i,i<n->Ba n l c q i=false:=by
 unfold crR at h;cases hc:AO (Ba n l c q) n 0 with
 | some t=>rw [hc] at h; cases h
 | none=>exact λi hi=>CY.1 hc i (Nat.zero_le i) (by omega)
theorem IsCycle.ok {a:Int} {n:Nat} {f:Nat->E6} (h:IsCycle a n f):OV a n f=(0,0):=by
 have e1:II a n f=(0,0):=by
  unfold II;rw [CY.2 λk _ h2=>h.legal k (by omega)];show (match AO (Gw n f) n 0 with | some t=>((41:Int),ofNat t) | none=>(0,0))=(0,0)
  rw [CY.2 λk _ h2=>h.meets k (by omega)]
 have c1:ilt (ofNat n) 2=false:=by rw [show (2:Int)=ofNat 2 from rfl,Dt,decide_eq_false (by have:=h.lo; omega)]
 have c2:ilt 16 (ofNat n)=false:=by rw [show (16:Int)=ofNat 16 from rfl,Dt,decide_eq_false (by have:=h.hi; omega)]
 have c3:ilt (IJ n f) 2=false:=by unfold IJ; rw [show (2:Int)=ofNat 2 from rfl,Dt,decide_eq_false (by have:=h.outer; omega)]
 have c4:ilt (JU n f) 2=false:=by unfold JU; rw [show (2:Int)=ofNat 2 from rfl,Dt,decide_eq_false (by have:=h.moves; omega)]
 rw [XP h.arch];unfold MN;rw [c1,c2,e1];show U5 n f=(0,0);unfold U5;rw [c3,c4];show Wu n f=(0,0);unfold Wu;rw [U0 h.writes,U0 h.crowd]
theorem Bs {a:Int} {n:Nat} {f:Nat->E6} (h:ieq (He a n f) 0=true):IsCycle a n f:=by
 have h:=Cj h;unfold He at h;have ha:ieq a 1=true ∨ ieq a 2=true:=by
  cases ca:ieq a 1 with
  | true=>exact .inl rfl
  | false =>
   cases cb:ieq a 2 with
   | true=>exact .inr rfl
   | false =>unfold OV at h;rw [ca,cb] at h;cases h
 rw [XP ha] at h;unfold MN at h;cases c1:ilt (ofNat n) 2 with
 | true=>rw [c1] at h; cases h
 | false =>
  cases c2:ilt 16 (ofNat n) with
  | true=>rw [c1,c2] at h; cases h
  | false =>
   rw [c1,c2] at h;have h:(match II a n f,ieq (II a n f).1 0 with | r,false=>r | _,true=>U5 n f).1=0:=h
   cases c3:ieq (II a n f).1 0 with
   | false =>rw [c3] at h;have h:(II a n f).1=0:=h;rw [h] at c3;cases c3
   | true =>
    rw [c3] at h;have h:(U5 n f).1=0:=h;have c3:=Cj c3;unfold U5 at h;cases c4:ilt (IJ n f) 2 with
    | true=>rw [c4] at h; cases h
    | false =>
     cases c5:ilt (JU n f) 2 with
     | true=>rw [c4,c5] at h; cases h
     | false =>
      rw [c4,c5] at h;have h:(Wu n f).1=0:=h;unfold Wu at h;cases c6:(crR n (A7 (λk=>AB (f k)) n) (λi=>isW (f i)) 2).2 with
      | true =>rw [show crR n (A7 (λk=>AB (f k)) n) (λi=>isW (f i)) 2=((crR n (A7 (λk=>AB (f k)) n) (λi=>isW (f i)) 2).1,true) from Prod.ext rfl c6] at h;cases h
      | false =>
       rw [show crR n (A7 (λk=>AB (f k)) n) (λi=>isW (f i)) 2=((crR n (A7 (λk=>AB (f k)) n) (λi=>isW (f i)) 2).1,false) from Prod.ext rfl c6] at h;cases c7:(crR n (A7 (λk=>A4 (f k)) n) (λ_=>true) 12).2 with
       | true =>rw [show crR n (A7 (λk=>A4 (f k)) n) (λ_=>true) 12=((crR n (A7 (λk=>A4 (f k)) n) (λ_=>true) 12).1,true) from Prod.ext rfl c7] at h;cases h
       | false =>
        have e1:AO (D9 a f) n 0=none∧AO (Gw n f) n 0=none:=by
         unfold II at c3;cases d1:AO (D9 a f) n 0 with
         | some t =>
          rw [d1] at c3;cases d2:ieq (GW a (f t)) 0 with
          | true=>simp only [d2] at c3; cases c3
          | false=>simp only [d2] at c3; cases c3
         | none =>
          rw [d1] at c3;cases d2:AO (Gw n f) n 0 with
          | some t=>rw [d2] at c3; cases c3
          | none=>exact ⟨rfl,rfl⟩
        rw [show (2:Int)=ofNat 2 from rfl,Dt] at c1;rw [show (16:Int)=ofNat 16 from rfl,Dt] at c2;unfold IJ at c4;rw [show (2:Int)=ofNat 2 from rfl,Dt] at c4;unfold JU at c5;rw [show (2:Int)=ofNat 2 from rfl,Dt] at c5;have c1:=of_decide_eq_false c1;have c2:=of_decide_eq_false c2;have c4:=of_decide_eq_false c4;have c5:=of_decide_eq_false c5;exact ⟨ha,by omega,by omega,λi hi=>CY.1 e1.1 i (Nat.zero_le i) (by omega),λi hi=>CY.1 e1.2 i (Nat.zero_le i) (by omega),by omega,by omega,Q8 c6,Q8 c7⟩
theorem Iu (p c:Nat->Bool) {n k:Nat} (hk:k<n) (hK:0<Ak p n) (q:Int) {i:Nat} (hi:i<n) :
  Ba n (A7 (λi=>p ((k+i) % n)) n) (λi=>c ((k+i) % n)) q i=Ba n (A7 p n) c q ((k+i) % n):=by
 unfold Ba OU;rw [Cy (q:=CG (A7 (λi=>p ((k+i) % n)) n) (λi=>c ((k+i) % n)) (A7 (λi=>p ((k+i) % n)) n i)) (p:=λj=>CG (A7 p n) c (A7 p n ((k+i) % n)) ((k+j) % n)) n λj hj=>by
  unfold CG;have h1:=Tv p hk hK hj hi;by_cases e:A7 (λi=>p ((k+i) % n)) n j=A7 (λi=>p ((k+i) % n)) n i
  ·rw [e,h1.1 e,RQ,RQ]
  ·rw [show ieq (A7 (λi=>p ((k+i) % n)) n j) (A7 (λi=>p ((k+i) % n)) n i)=false by simp [ieq,e],show ieq (A7 p n ((k+j) % n)) (A7 p n ((k+i) % n))=false by
    have:¬ A7 p n ((k+j) % n)=A7 p n ((k+i) % n):=λh=>e (h1.2 h);simp [ieq,this]]]
 rw [GE (CG (A7 p n) c (A7 p n ((k+i) % n))) hk]
theorem IsCycle.turned {a:Int} {n:Nat} {f:Nat->E6} (h:IsCycle a n f) {k:Nat} (hk:k<n):IsCycle a n λi=>f ((k+i) % n):=by
 have hn:0<n:=by omega
 have ho:=h.outer;have hm:=h.moves;refine ⟨h.arch,h.lo,h.hi,λi hi=>h.legal _ (Nat.mod_lt _ hn),λi hi=>?_,?_,?_,λi hi=>?_,λi hi=>?_⟩
 ·have:=h.meets ((k+i) % n) (Nat.mod_lt _ hn)
  unfold Gw at this ⊢;rw [Nat.mod_add_mod] at this;show AQ (ieq (f ((k+i) % n)).dst (f ((k+(i+1) % n) % n)).src)=false;rw [Nat.add_mod_mod,<- Nat.add_assoc];exact this
 ·show 2 <= Ak (λi=>(λk=>A4 (f k)) ((k+i) % n)) n
  rw [GE (λk=>A4 (f k)) hk];exact ho
 ·show 2 <= Ak (λi=>(λk=>AB (f k)) ((k+i) % n)) n
  rw [GE (λk=>AB (f k)) hk];exact hm
 ·show Ba n (A7 (λi=>(λk=>AB (f k)) ((k+i) % n)) n) (λi=>(λk=>isW (f k)) ((k+i) % n)) 2 i=false
  rw [Iu (λk=>AB (f k)) (λk=>isW (f k)) hk (by omega) 2 hi];exact h.writes _ (Nat.mod_lt _ hn)
 ·show Ba n (A7 (λi=>(λk=>A4 (f k)) ((k+i) % n)) n) (λi=>(λ_=>true) ((k+i) % n)) 12 i=false
  rw [Iu (λk=>A4 (f k)) (λ_=>true) hk (by omega) 12 hi];exact h.crowd _ (Nat.mod_lt _ hn)
theorem IsCycle.may {a:Int} {n:Nat} {f:Nat->E6} (h:IsCycle a n f):Es n f=true:=Fb.2 λi hi=>by
 have h1:=h.legal i hi;unfold D9 at h1;cases c:ieq (GW a (f i)) 0 with
 | false=>rw [c] at h1; cases h1
 | true =>
  have c:=Cj c;rcases h.arch with ha | ha
  ·rw [Cj ha] at c; exact c
  ·rw [Cj ha] at c; exact c
noncomputable def tb18:A9:=(138,U4)::(107,U4)::(77,Kk)::(48,IK)::(43,NC)::[]
theorem tb18_ok:Ao Tryz.prog Gl tb18:=.cons p48 <| .cons p49 <| .cons p69 <| .cons p65 <| .cons p42 .nil
def lp18 (a:Int) (n:Nat) (f:Nat->E6) (b:Int):Lp:=⟨bmK 139 0 [1,6,14,24],4,bmK 139 0 [6],0,n+1⟩
end Go.Proofs.YtkbafjceglhjhaaGreatDoor.Ed
