/-
  Check, the program's and the document's: one answer. No conditions.
-/
import Derived.Test.YtkbafjceglhjhaaGreatDoorEdX
import Derived.Test.YtkbafjceglhjhaaGreatDoorEdY
import Derived.Test.YtkbafjceglhjhaaGreatDoorCyT
namespace Go.Proofs.YtkbafjceglhjhaaGreatDoor.Ed
open Go.Sy
open Int (ofNat)
noncomputable def WL:AM:=(121,BN λe=>iV (Bc e))::(151,ap2 gI toE λa e=>out (Nj a e))::(152,BN λe=>bV (A2 e))::(153,BN λe=>bV (A7 e))::(154,PW)::(155,PV)::(156,Aaz)::[]
theorem Abt:Ar Tryz.prog Gl WL:=.cons p29 <| .cons p33 <| .cons p60 <| .cons p61 <| .cons p94 <| .cons p95 <| .cons p96 .nil
def HV (n:Nat) (f:Nat->E6):Int:=ofNat (Ai (λk=>A2 (f k)) n)
def Jj (n:Nat) (f:Nat->E6):Int:=ofNat (Ai (λk=>A7 (f k)) n)
def UP (n:Nat) (f:Nat->E6):Int×Int :=
 match crR n (Az (λk=>A7 (f k)) n) (λi=>isW (f i)) 2 with
 | (i,true)=>(44,i)
 | (_,false)=>match crR n (Az (λk=>A2 (f k)) n) (λ_=>true) 12 with
   | (i,true)=>(45,i)
   | (_,false)=>(0,0)
def SZ (n:Nat) (f:Nat->E6):Int×Int :=
 match ilt (HV n f) 2,ilt (Jj n f) 2 with
 | true,_=>(42,0)
 | false,true=>(43,0)
 | false,false=>UP n f
def LU (a:Int) (n:Nat) (f:Nat->E6):Int×Int :=
 match ilt (ofNat n) 2,ilt 16 (ofNat n) with
 | true,_=>(40,0)
 | false,true=>(40,0)
 | false,false=>match HU a n f,ieq (HU a n f).1 0 with
  | r,false=>r
  | _,true=>SZ n f
def NM (a:Int) (n:Nat) (f:Nat->E6):Int×Int :=
 match ieq a 1,ieq a 2 with
 | false,false=>(1,0)
 | _,_=>LU a n f
def XE:List V->A9
 | [.val (.int .i64 a),v]=>apL v λn f=>.br (CJ n) (out (.tup [iV (NM a n f).1,iV (NM a n f).2])) .fail
 | _=>.fail
theorem Ww {a:Int} {n:Nat} {f:Nat->E6} (h:ieq a 1=true ∨ ieq a 2=true):NM a n f=LU a n f:=by
 unfold NM;rcases h with h | h
 ·rw [h]
 ·rw [h]
  cases ieq a 1 <;> rfl
theorem Al6 {n:Nat} (h:CJ n=true):E0 8 (ofNat n) (ofNat n)=true:=by
 have:=Jf h;simp only [E0,Bool.and_eq_true,decide_eq_true_eq,Int.ofNat_eq_natCast];omega
theorem Ahc {i n:Nat} (h:i<n) (hn:n <= 4611686018427387904):Aj (ile 0 (An (wr .i64 (Ah (ofNat i) 1)) (ofNat n))) (ilt (An (wr .i64 (Ah (ofNat i) 1)) (ofNat n)) (ofNat n))=true:=by
 rw [MQ h hn];exact Ae (Nat.mod_lt _ (by omega))
def AjK:Lp:=⟨bmK 133 0 [0,1,4,5,6,7,8,9],0,bmK 133 0 [1,4,5,6,7,8],0,4611686018427387905⟩
def S52 (a0:Int) (n:Nat) (f:Nat->E6) (c:Int) (a:Int×Int) (j:Nat->V):St:=⟨jsV 133 0 j [(0,iV a0),(1,.sl 6 n (λi=>eV (f i))),(4,iV 0),(5,iV 0),(6,nV n),(7,iV a.1),(8,iV a.2),(9,iV c)],[]⟩
noncomputable def B52 (L:LT):St->T (Ex×St):=λst=>AL tab ⟨A0 WL,L,Gl⟩ (A3 Tryz.f107 0) 0 st
def XR (a0:Int) (n:Nat) (f:Nat->E6) (i:Nat) (a:Int×Int):Ex×St:=(.rt,⟨jsV 133 0 Ab [(1,.sl 6 n (λi=>eV (f i))),(4,iV 5),(5,nV i),(6,nV n),(7,iV a.1),(8,iV a.2)],[]⟩)
def XQ (a0:Int) (n:Nat) (f:Nat->E6) (i:Nat) (a:Int×Int):Ex×St:=(.rt,⟨jsV 133 0 Ab [(1,.sl 6 n (λi=>eV (f i))),(4,iV 30),(5,nV i),(6,nV n),(7,iV a.1),(8,iV a.2)],[]⟩)
def g52 (a0:Int) (n:Nat) (f:Nat->E6) (i:Nat) (a:Int×Int):T ((Int×Int) ⊕ (Ex×St)):=.br (ieq (Bc (f i)) 0) (.br (Jd a0 (f i)) (.br (A2 (f i)) (.br (A7 (f i)) (.leaf (.inl ((wr .i64 (Ah a.1 1)),wr .i64 (Ah a.2 1)))) (.leaf (.inl ((wr .i64 (Ah a.1 1)),a.2)))) (.br (A7 (f i)) (.leaf (.inl (a.1,wr .i64 (Ah a.2 1)))) (.leaf (.inl (a.1,a.2))))) (.leaf (.inr (XR a0 n f i a)))) (.leaf (.inr (XQ a0 n f i a)))
def U4 (a0:Int) (n:Nat) (f:Nat->E6) (a:Int×Int):Ex×St:=(.ex 0,⟨jsV 133 0 Ab [(1,.sl 6 n (λi=>eV (f i))),(4,iV 0),(5,iV 0),(6,nV n),(7,iV a.1),(8,iV a.2)],[]⟩)
theorem r52 (L:LT) (a0:Int) (n:Nat) (f:Nat->E6)  (hn:n <= 4611686018427387904) {e:Ex×St} {a:Int×Int} {j:Nat->V} (h:BV (g52 a0 n f) (U4 a0 n f) n 0 a=some e):(A4 (B52 L) AjK 4611686018427387905 (S52 a0 n f 0 a j)).sem=some (exR e) :=
 AD Bq hn (λi a j r hi h=>DK.ok (L:=goR (S52 a0 n f) exR i) (.k (ofNat_lt hi) <| .k (Ae hi) <| .c (λh1=>.k (eN h1) <| .k (Ae hi) <| .c (λh2=>.k (eN h2) <| .k (Ae hi) <| .c (λh3=>.k h3 <| .k (Ae hi) <| .c (λh4=>.k h4 <| .l) λh4=>.k h4 <| .l) λh3=>.k h3 <| .k (Ae hi) <| .c (λh5=>.k h5 <| .l) λh5=>.k h5 <| .l) λh2=>.k (eN h2) <| .l) λh1=>.k (eN h1) <| .l) (by kernel_rfl) h) (λa j=>DK.ok (C:=.leaf (U4 a0 n f a)) (L:=exR) (.k (Au (Nat.le_refl n)) .l) (by kernel_rfl) rfl) (Nat.zero_add _).symm (Nat.lt_succ_of_le hn) h
def Zp:Lp:=⟨bmK 133 0 [1,4,5,6,7,8,12],0,bmK 133 0 [1,4,5,6,7,8],0,4611686018427387905⟩
def Afb (a0:Int) (n:Nat) (f:Nat->E6) (c:Int) (a:Int×Int) (j:Nat->V):St:=⟨jsV 133 0 j [(1,.sl 6 n (λi=>eV (f i))),(4,iV 0),(5,iV 0),(6,nV n),(7,iV a.1),(8,iV a.2),(12,iV c)],[]⟩
noncomputable def AkW (L:LT):St->T (Ex×St):=λst=>AL tab ⟨A0 WL,L,Gl⟩ (A3 Tryz.f107 2) 2 st
def Jy (a0:Int) (n:Nat) (f:Nat->E6) (i:Nat) (a:Int×Int):Ex×St:=(.rt,⟨jsV 133 0 Ab [(1,.sl 6 n (λi=>eV (f i))),(4,iV 41),(5,nV i),(6,nV n),(7,iV a.1),(8,iV a.2)],[]⟩)
def S7 (a0:Int) (n:Nat) (f:Nat->E6) (i:Nat) (a:Int×Int):T ((Int×Int) ⊕ (Ex×St)):=.br (ieq (f i).dst (f (toN (An (wr .i64 (Ah (ofNat i) 1)) (ofNat n)))).src) (.leaf (.inl (a.1,a.2))) (.leaf (.inr (Jy a0 n f i a)))
def N3 (a0:Int) (n:Nat) (f:Nat->E6) (a:Int×Int):Ex×St:=(.ex 2,⟨jsV 133 0 Ab [(1,.sl 6 n (λi=>eV (f i))),(4,iV 0),(5,iV 0),(6,nV n),(7,iV a.1),(8,iV a.2)],[]⟩)
theorem Aeb (L:LT) (a0:Int) (n:Nat) (f:Nat->E6)  (hn:n <= 4611686018427387904) {e:Ex×St} {a:Int×Int} {j:Nat->V} (h:BV (S7 a0 n f) (N3 a0 n f) n 0 a=some e):(A4 (AkW L) Zp 4611686018427387905 (Afb a0 n f 0 a j)).sem=some (exR e) :=
 AD Bq hn (λi a j r hi h=>DK.ok (L:=goR (Afb a0 n f) exR i) (.k (ofNat_lt hi) <| .k (Ae hi) <| .k (JK hi) <| .k (Ahc hi hn) <| .c (λh1=>.k (eN h1) <| .l) λh1=>.k (eN h1) <| .l) (by kernel_rfl) h) (λa j=>DK.ok (C:=.leaf (N3 a0 n f a)) (L:=exR) (.k (Au (Nat.le_refl n)) .l) (by kernel_rfl) rfl) (Nat.zero_add _).symm (Nat.lt_succ_of_le hn) h
def Zo:Lp:=⟨bmK 133 0 [1,4,5,6,13,14,15],2,bmK 133 0 [1,4,5,6,13],2,4611686018427387905⟩
def Afa (a0:Int) (n:Nat) (f:Nat->E6) (c:Int) (a:(Nat->Int)×(Nat->Int)) (j:Nat->V):St:=⟨jsV 133 0 j [(1,.sl 6 n (λi=>eV (f i))),(4,iV 0),(5,iV 0),(6,nV n),(13,.ref 0),(14,.ref 1),(15,iV c)],[.row 3 1 n (λk=>iV (a.1 k)),.row 3 1 n (λk=>iV (a.2 k))]⟩
noncomputable def AkV (L:LT):St->T (Ex×St):=λst=>AL tab ⟨A0 WL,L,Gl⟩ (A3 Tryz.f107 4) 4 st
def Jx (a0:Int) (n:Nat) (f:Nat->E6) (i:Nat) (a:(Nat->Int)×(Nat->Int)):Ex×St:=(.rt,⟨jsV 133 0 Ab [(1,.sl 6 n (λi=>eV (f i))),(4,iV 44),(5,nV i),(6,nV n),(13,.ref 0)],[.row 3 1 n (λk=>iV (a.1 k)),.row 3 1 n (λk=>iV (a.2 k))]⟩)
def Wd (a0:Int) (n:Nat) (f:Nat->E6) (i:Nat) (a:(Nat->Int)×(Nat->Int)):T (((Nat->Int)×(Nat->Int)) ⊕ (Ex×St)):=.br (ieq (f i).src 2) (.br (ilt 2 (Lg n a.2 (λi=>bor (AN true) (isW (f i))) (a.2 i))) (.leaf (.inr (Jx a0 n f i a))) (.leaf (.inl (a.1,a.2)))) (.leaf (.inl (a.1,a.2)))
def N2 (a0:Int) (n:Nat) (f:Nat->E6) (a:(Nat->Int)×(Nat->Int)):Ex×St:=(.ex 4,⟨jsV 133 0 Ab [(1,.sl 6 n (λi=>eV (f i))),(4,iV 0),(5,iV 0),(6,nV n),(13,.ref 0)],[.row 3 1 n (λk=>iV (a.1 k)),.row 3 1 n (λk=>iV (a.2 k))]⟩)
theorem Aea (L:LT) (a0:Int) (n:Nat) (f:Nat->E6)  (hn:n <= 4611686018427387904) {e:Ex×St} {a:(Nat->Int)×(Nat->Int)} {j:Nat->V} (h:BV (Wd a0 n f) (N2 a0 n f) n 0 a=some e):(A4 (AkV L) Zo 4611686018427387905 (Afa a0 n f 0 a j)).sem=some (exR e) :=
 AD Bq hn (λi a j r hi h=>DK.ok (L:=goR (Afa a0 n f) exR i) (.k (ofNat_lt hi) <| .k (Ae hi) <| .c (λh1=>.r 5 h1 <| .k (Ae hi) <| .k h1 <| .k (decide_eq_true hi) <| .k h1 <| .r 2 (eL n) <| .k (eJ n) <| .k (decide_eq_true hn) <| .r 2 h1 <| .c (λh2=>.k h2 <| .l) λh2=>.k h2 <| .l) λh1=>.r 9 h1 <| .k eF <| .l) (by kernel_rfl) h) (λa j=>DK.ok (C:=.leaf (N2 a0 n f a)) (L:=exR) (.k (Au (Nat.le_refl n)) .l) (by kernel_rfl) rfl) (Nat.zero_add _).symm (Nat.lt_succ_of_le hn) h
def Zn:Lp:=⟨bmK 133 0 [1,4,5,6,13,16],2,bmK 133 0 [4,5],0,4611686018427387905⟩
def AeZ (a0:Int) (n:Nat) (f:Nat->E6) (c:Int) (a:(Nat->Int)×(Nat->Int)) (j:Nat->V):St:=⟨jsV 133 0 j [(1,.sl 6 n (λi=>eV (f i))),(4,iV 0),(5,iV 0),(6,nV n),(13,.ref 0),(16,iV c)],[.row 3 1 n (λk=>iV (a.1 k)),.row 3 1 n (λk=>iV (a.2 k))]⟩
noncomputable def AkU (L:LT):St->T (Ex×St):=λst=>AL tab ⟨A0 WL,L,Gl⟩ (A3 Tryz.f107 6) 6 st
def Jw (a0:Int) (n:Nat) (f:Nat->E6) (i:Nat) (a:(Nat->Int)×(Nat->Int)):Ex×St:=(.rt,⟨jsV 133 0 Ab [(4,iV 45),(5,nV i)],[]⟩)
def Wc (a0:Int) (n:Nat) (f:Nat->E6) (i:Nat) (a:(Nat->Int)×(Nat->Int)):T (((Nat->Int)×(Nat->Int)) ⊕ (Ex×St)):=.br (ilt 12 (Lg n a.1 (λi=>bor (AN false) (isW (f i))) (a.1 i))) (.leaf (.inr (Jw a0 n f i a))) (.leaf (.inl (a.1,a.2)))
def N1 (a0:Int) (n:Nat) (f:Nat->E6) (a:(Nat->Int)×(Nat->Int)):Ex×St:=(.ex 6,⟨jsV 133 0 Ab [(4,iV 0),(5,iV 0)],[]⟩)
theorem AdZ (L:LT) (a0:Int) (n:Nat) (f:Nat->E6)  (hn:n <= 4611686018427387904) {e:Ex×St} {a:(Nat->Int)×(Nat->Int)} {j:Nat->V} (h:BV (Wc a0 n f) (N1 a0 n f) n 0 a=some e):(A4 (AkU L) Zn 4611686018427387905 (AeZ a0 n f 0 a j)).sem=some (exR e) :=
 AD Bq hn (λi a j r hi h=>DK.ok (L:=goR (AeZ a0 n f) exR i) (.k (ofNat_lt hi) <| .k (Ae hi) <| .k (decide_eq_true hi) <| .r 2 (eL n) <| .k (eJ n) <| .k (decide_eq_true hn) <| .c (λh1=>.k h1 <| .l) λh1=>.k h1 <| .l) (by kernel_rfl) h) (λa j=>DK.ok (C:=.leaf (N1 a0 n f a)) (L:=exR) (.k (Au (Nat.le_refl n)) .l) (by kernel_rfl) rfl) (Nat.zero_add _).symm (Nat.lt_succ_of_le hn) h
def MV:List (Nat×Lp×List (Nat×(Nat->V))):=[(0,AjK,[]),(2,Zp,[]),(4,Zo,[]),(6,Zn,[])]
abbrev pO (n:Nat) (f:Nat->E6):Nat->Int:=Az (λk=>A2 (f k)) n
abbrev pM (n:Nat) (f:Nat->E6):Nat->Int:=Az (λk=>A7 (f k)) n
abbrev AkM (n:Nat) (f:Nat->E6):Int×Int:=(HV n f,Jj n f)
abbrev Adv (n:Nat) (f:Nat->E6):(Nat->Int)×(Nat->Int):=(pO n f,pM n f)
theorem Z5 {a:Int} {e:E6} (h:B2 a=true):Gn a e=Bc e:=by unfold Gn; rw [h]; rfl
theorem kn1 {a:Int} (h:ieq a 1=true):B2 a=true:=by unfold B2; rw [h]; rfl
theorem kn2 {a:Int} (h:ieq a 2=true):B2 a=true:=by unfold B2; rw [h]; cases ieq a 1 <;> rfl
section
variable {a0:Int} {n:Nat} {f:Nat->E6}
def Ov (f:Nat->E6) (i:Nat):Int×Int:=(ofNat (Ai (λk=>A2 (f k)) i),ofNat (Ai (λk=>A7 (f k)) i))
def AaD (a0:Int) (n:Nat) (f:Nat->E6) (i:Nat):Ex×St:=sel (ieq (Gn a0 (f i)) 0) (XR a0 n f i (Ov f i)) (XQ a0 n f i (Ov f i))
theorem c52 (hK:B2 a0=true) (hn:n <= 4611686018427387904) {i:Nat} (hi:i<n) (h:Do a0 f i=false):(g52 a0 n f i (Ov f i)).sem=some (.inl (Ov f (i+1))):=by
 have h1:=By (λk=>A2 (f k)) i;have h2:=By (λk=>A7 (f k)) i;unfold Do at h;rw [Z5 hK] at h;have w1:=C6 (show Ai (λk=>A2 (f k)) i<n by omega) hn;have w2:=C6 (show Ai (λk=>A7 (f k)) i<n by omega) hn;show sel (ieq (Bc (f i)) 0) _ _=_;cases e1:ieq (Bc (f i)) 0 with
 | false=>rw [e1] at h; cases h
 | true =>
  show sel (Jd a0 (f i)) _ _=_;cases e2:Jd a0 (f i) with
  | false=>rw [e1,e2] at h; cases h
  | true =>
   show sel (A2 (f i)) (sel (A7 (f i)) (some _) (some _)) (sel (A7 (f i)) (some _) (some _))=some (Sum.inl (ofNat (match A2 (f i) with
    | true=>Ai (λk=>A2 (f k)) i+1
    | false=>Ai (λk=>A2 (f k)) i),ofNat (match A7 (f i) with
    | true=>Ai (λk=>A7 (f k)) i+1
    | false=>Ai (λk=>A7 (f k)) i)))
   cases A2 (f i) <;> cases A7 (f i) <;> simp only [sel,Ov,w1,w2] <;> rfl
theorem t52 (hK:B2 a0=true) {i:Nat} (h:Do a0 f i=true):(g52 a0 n f i (Ov f i)).sem=some (.inr (AaD a0 n f i)):=by
 unfold Do at h;unfold AaD;rw [Z5 hK] at h ⊢;show sel (ieq (Bc (f i)) 0) _ _=_;cases e1:ieq (Bc (f i)) 0 with
 | false=>rfl
 | true =>
  show sel (Jd a0 (f i)) _ _=_;cases e2:Jd a0 (f i) with
  | false=>rfl
  | true=>rw [e1,e2] at h; cases h
theorem AlJ (hK:B2 a0=true) (hn:n <= 4611686018427387904) (h:isN (AQ (Do a0 f) n 0)=true):BV (g52 a0 n f) (U4 a0 n f) n 0 (0,0)=some (U4 a0 n f (HV n f,Jj n f)):=N8 (acc:=Ov f) (λ_ hi=>c52 hK hn hi) (λ_ _=>t52 hK) h
theorem Akt (hK:B2 a0=true) (hn:n <= 4611686018427387904) (h:isN (AQ (Do a0 f) n 0)=false):BV (g52 a0 n f) (U4 a0 n f) n 0 (0,0)=some (AaD a0 n f (tO (Do a0 f) n)):=N7 (acc:=Ov f) (λ_ hi=>c52 hK hn hi) (λ_ _=>t52 hK) h
theorem AlL (hK:B2 a0=true) (hn:n <= 4611686018427387904) (h:isN (AQ (Do a0 f) n 0)=false) (g:ieq (Gn a0 (f (tO (Do a0 f) n))) 0=true):BV (g52 a0 n f) (U4 a0 n f) n 0 (0,0)=some (XR a0 n f (tO (Do a0 f) n) (Ov f (tO (Do a0 f) n))):=by rw [Akt hK hn h,AaD,g]; rfl
theorem AlK (hK:B2 a0=true) (hn:n <= 4611686018427387904) (h:isN (AQ (Do a0 f) n 0)=false) (g:ieq (Gn a0 (f (tO (Do a0 f) n))) 0=false):BV (g52 a0 n f) (U4 a0 n f) n 0 (0,0)=some (XQ a0 n f (tO (Do a0 f) n) (Ov f (tO (Do a0 f) n))):=by rw [Akt hK hn h,AaD,g]; rfl
theorem W1 (hn:n <= 4611686018427387904) {a:Int×Int} {i:Nat} (hi:i<n):(S7 a0 n f i a).sem=sel (FH n f i) (some (.inr (Jy a0 n f i a))) (some (.inl a)):=by
 unfold S7 FH;rw [MQ hi hn,show toN (ofNat ((i+1) % n))=(i+1) % n from rfl];cases ieq (f i).dst (f ((i+1) % n)).src <;> rfl
theorem AlI (hn:n <= 4611686018427387904) {a:Int×Int} (h:isN (AQ (FH n f) n 0)=true):BV (S7 a0 n f) (N3 a0 n f) n 0 a=some (N3 a0 n f a):=N8 (acc:=λ_=>a) (x:=λi=>Jy a0 n f i a) (λi hi hq=>by rw [W1 hn hi,hq]; rfl) (λi hi hq=>by rw [W1 hn hi,hq]; rfl) h
theorem AlH (hn:n <= 4611686018427387904) {a:Int×Int} (h:isN (AQ (FH n f) n 0)=false):BV (S7 a0 n f) (N3 a0 n f) n 0 a=some (Jy a0 n f (tO (FH n f) n) a):=N7 (acc:=λ_=>a) (x:=λi=>Jy a0 n f i a) (λi hi hq=>by rw [W1 hn hi,hq]; rfl) (λi hi hq=>by rw [W1 hn hi,hq]; rfl) h
theorem W0 {a:(Nat->Int)×(Nat->Int)} {i:Nat}:(Wd a0 n f i a).sem=sel (AV n a.2 (λi=>isW (f i)) 2 i) (some (.inr (Jx a0 n f i a))) (some (.inl a)):=by
 show sel (isW (f i)) _ _=sel (Aj (isW (f i)) _) _ _;cases isW (f i) <;> rfl
theorem AlG {a:(Nat->Int)×(Nat->Int)} (h:isN (AQ (AV n a.2 (λi=>isW (f i)) 2) n 0)=true):BV (Wd a0 n f) (N2 a0 n f) n 0 a=some (N2 a0 n f a):=N8 (acc:=λ_=>a) (x:=λi=>Jx a0 n f i a) (λi _ hq=>by rw [W0,hq]; rfl) (λi _ hq=>by rw [W0,hq]; rfl) h
theorem AlF {a:(Nat->Int)×(Nat->Int)} (h:isN (AQ (AV n a.2 (λi=>isW (f i)) 2) n 0)=false):BV (Wd a0 n f) (N2 a0 n f) n 0 a=some (Jx a0 n f (tO (AV n a.2 (λi=>isW (f i)) 2) n) a):=N7 (acc:=λ_=>a) (x:=λi=>Jx a0 n f i a) (λi _ hq=>by rw [W0,hq]; rfl) (λi _ hq=>by rw [W0,hq]; rfl) h
theorem Wz {a:(Nat->Int)×(Nat->Int)} {i:Nat}:(Wc a0 n f i a).sem=sel (AV n a.1 (λ_=>true) 12 i) (some (.inr (Jw a0 n f i a))) (some (.inl a)):=rfl
theorem AlD {a:(Nat->Int)×(Nat->Int)} (h:isN (AQ (AV n a.1 (λ_=>true) 12) n 0)=true):BV (Wc a0 n f) (N1 a0 n f) n 0 a=some (N1 a0 n f a):=N8 (acc:=λ_=>a) (x:=λi=>Jw a0 n f i a) (λi _ hq=>by rw [Wz,hq]; rfl) (λi _ hq=>by rw [Wz,hq]; rfl) h
theorem AlC {a:(Nat->Int)×(Nat->Int)} (h:isN (AQ (AV n a.1 (λ_=>true) 12) n 0)=false):BV (Wc a0 n f) (N1 a0 n f) n 0 a=some (Jw a0 n f (tO (AV n a.1 (λ_=>true) 12) n) a):=N7 (acc:=λ_=>a) (x:=λi=>Jw a0 n f i a) (λi _ hq=>by rw [Wz,hq]; rfl) (λi _ hq=>by rw [Wz,hq]; rfl) h
end
def C52 (a0:Int) (n:Nat) (f:Nat->E6):A9:=.br (ilt (ofNat n) 2) (.leaf ((.tup [iV 40,iV 0]),[])) (.br (ilt 16 (ofNat n)) (.leaf ((.tup [iV 40,iV 0]),[])) (.br (isN (AQ (Do a0 f) n 0)) (.br (isN (AQ (FH n f) n 0)) (.br (ilt (HV n f) 2) (.leaf ((.tup [iV 42,iV 0]),[])) (.br (ilt (Jj n f) 2) (.leaf ((.tup [iV 43,iV 0]),[])) (.br (isN (AQ (AV n (pM n f) (λi=>isW (f i)) 2) n 0)) (.br (isN (AQ (AV n (pO n f) (λ_=>true) 12) n 0)) (.leaf ((.tup [iV 0,iV 0]),[])) (.leaf ((.tup [iV 45,nO (AV n (pO n f) (λ_=>true) 12) n]),[]))) (.leaf ((.tup [iV 44,nO (AV n (pM n f) (λi=>isW (f i)) 2) n]),[]))))) (.leaf ((.tup [iV 41,nO (FH n f) n]),[]))) (.br (ieq (Gn a0 (f (tO (Do a0 f) n))) 0) (.leaf ((.tup [iV 5,nO (Do a0 f) n]),[])) (.leaf ((.tup [iV 30,nO (Do a0 f) n]),[])))))
theorem Ad9 (a0:Int) (n:Nat) (f:Nat->E6):(C52 a0 n f).sem=some (.tup [iV (LU a0 n f).1,iV (LU a0 n f).2],[]):=by
 unfold C52 LU HU SZ UP crR nO tO;cases ilt (ofNat n) 2 with
 | true=>rfl
 | false =>
  cases ilt 16 (ofNat n) with
  | true=>rfl
  | false =>
   cases AQ (Do a0 f) n 0 with
   | some t =>show sel (ieq (Gn a0 (f t)) 0) _ _=_;cases e:ieq (Gn a0 (f t)) 0 <;> simp only [e] <;> rfl
   | none =>
    cases AQ (FH n f) n 0 with
    | some t=>rfl
    | none =>
     show sel (ilt (HV n f) 2) _ _=some (V.tup [iV (match ilt (HV n f) 2,ilt (Jj n f) 2 with
      | true,_=>((42:Int),(0:Int))
      | false,true=>(43,0)
      | false,false=>_).1,iV (match ilt (HV n f) 2,ilt (Jj n f) 2 with
      | true,_=>((42:Int),(0:Int))
      | false,true=>(43,0)
      | false,false=>_).2],[])
     cases ilt (HV n f) 2 with
     | true=>rfl
     | false =>
      cases ilt (Jj n f) 2 with
      | true=>rfl
      | false =>
       cases AQ (AV n (Az (λk=>A7 (f k)) n) (λi=>isW (f i)) 2) n 0 with
       | some t=>rfl
       | none=>cases AQ (AV n (Az (λk=>A2 (f k)) n) (λ_=>true) 12) n 0 <;> rfl
def AeQ (a:Int) (C:A9):A9:=.br (ieq a 1) C (.br (ieq a 2) C (.leaf (.tup [iV 1,iV 0],[])))
theorem Pt {a:Int} {n:Nat} {f:Nat->E6} {C:A9} (h:C.sem=some (.tup [iV (LU a n f).1,iV (LU a n f).2],[])):(AeQ a C).sem=some (.tup [iV (NM a n f).1,iV (NM a n f).2],[]):=by
 unfold AeQ NM;cases ieq a 1 with
 | true=>exact h
 | false =>
  cases ieq a 2 with
  | true=>exact h
  | false=>rfl
theorem p49:As Tryz.prog Gl 107 XE:=by
 refine Am A8 mixed Tryz.func107 (by kernel_rfl) (by kernel_rfl) λvs v h' h=>?_;unfold XE at h;split at h
 ·rename_i a0 u
  obtain ⟨n,f,ha,h1⟩:=Ck h;obtain ⟨hF,hq⟩:=Ac h1;have:=Aa hq;simp only [Prod.mk.injEq] at this;obtain ⟨rfl,rfl⟩:=this;have hn:n <= 4611686018427387904:=DR (Gu hF);have hx:=Bs Abt MV (G:=Gl);have w:=λ(hK:B2 a0=true)=>show DK (λa=>a) (C52 a0 n f) _ from .c (λh1=>.r 3 h1 <| .k eT <| .l) λh1=>.r 3 h1 <| .c (λh2=>.k h2 <| .l) λh2=>.k h2 <| .c (λh3=>.a (r52 (askL MV) a0 n f hn (j:=λ_=>.und) (AlJ hK hn h3)) <| .c (λh4=>.a (Aeb (askL MV) a0 n f hn (j:=λ_=>.und) (AlI (a:=AkM n f) hn h4)) <| .c (λh5=>.k h5 <| .l) λh5=>.k h5 <| .c (λh6=>.k h6 <| .l) λh6=>.k h6 <| .k (eL n) <| .k hF <| .k (eL n) <| .k hF <| .c (λh7=>.a (Aea (askL MV) a0 n f hn (j:=λ_=>.und) (AlG (a:=Adv n f) h7)) <| .c (λh8=>.a (AdZ (askL MV) a0 n f hn (j:=λ_=>.und) (AlD (a:=Adv n f) h8)) <| .l) λh8=>.a (AdZ (askL MV) a0 n f hn (j:=λ_=>.und) (AlC (a:=Adv n f) h8)) <| .l) λh7=>.a (Aea (askL MV) a0 n f hn (j:=λ_=>.und) (AlF (a:=Adv n f) h7)) <| .l) λh4=>.a (Aeb (askL MV) a0 n f hn (j:=λ_=>.und) (AlH (a:=AkM n f) hn h4)) <| .l) λh3=>.c (λg=>.a (r52 (askL MV) a0 n f hn (j:=λ_=>.und) (AlL hK hn h3 g)) .l) λg=>.a (r52 (askL MV) a0 n f hn (j:=λ_=>.und) (AlK hK hn h3 g)) .l
  exact ⟨_,cxA Gl WL MV,_,UY ha,rfl,hx.1,hx.2,DK.of (Pt (Ad9 a0 n f)) (.c (λh1=>.k (eN h1) <| .k (eN h1) <| .k (eN h1) <| .k eF (w (kn1 h1))) λh1=>.k (eN h1) <| .k (eN h1) <| .k (eN h1) <| .c (λh2=>.k (eN h2) (w (kn2 h2))) λh2=>.k (eN h2) .l) (by kernel_rfl),Aw.refl _⟩
 ·cases h
noncomputable def Ai1:AM:=(169,Ah6)::(170,UO)::(175,Uc)::(174,UN)::[]
theorem Abu:Ar Tryz.prog Gl Ai1:=.cons p86 <| .cons p87 <| .cons p92 <| .cons p91 .nil
def Ak3 (a:Int) (n:Nat) (f:Nat->E6):Int:=(HU a n f).1
def AlN (a:Int) (n:Nat) (f:Nat->E6):Int:=(HU a n f).2
def crI (n:Nat) (l:Nat->Int) (c:Nat->Bool) (q:Int):Int:=(crR n l c q).1
def crB (n:Nat) (l:Nat->Int) (c:Nat->Bool) (q:Int):Bool:=(crR n l c q).2
theorem RZ (p:Nat->Bool) (n:Nat) (hn:n <= 4611686018427387904):okP n (Az p n)=true:=AE.2 λi hi=>by
 unfold Az;cases decide (i<n) with
 | false=>rfl
 | true =>
  cases decide (Ai p i=Ai p n) with
  | true=>rfl
  | false =>have:=By p i;exact Q9 (by omega)
def C84 (a0:Int) (n:Nat) (f:Nat->E6):A9:=.br (ilt (ofNat n) 2) (.leaf ((.tup [iV 40,iV 0]),[])) (.br (ilt 16 (ofNat n)) (.leaf ((.tup [iV 40,iV 0]),[])) (.br (ieq (Ak3 a0 n f) 0) (.br (ilt (HV n f) 2) (.leaf ((.tup [iV 42,iV 0]),[])) (.br (ilt (Jj n f) 2) (.leaf ((.tup [iV 43,iV 0]),[])) (.br (crB n (Az (λk=>A7 (f k)) n) (λi=>isW (f i)) 2) (.leaf ((.tup [iV 44,iV (crI n (Az (λk=>A7 (f k)) n) (λi=>isW (f i)) 2)]),[])) (.br (crB n (Az (λk=>A2 (f k)) n) (λ_=>true) 12) (.leaf ((.tup [iV 45,iV (crI n (Az (λk=>A2 (f k)) n) (λ_=>true) 12)]),[])) (.leaf ((.tup [iV 0,iV 0]),[])))))) (.leaf ((.tup [iV (Ak3 a0 n f),iV (AlN a0 n f)]),[]))))
theorem Ad5 (a0:Int) (n:Nat) (f:Nat->E6):(C84 a0 n f).sem=some (.tup [iV (LU a0 n f).1,iV (LU a0 n f).2],[]):=by
 unfold C84 LU SZ UP;cases ilt (ofNat n) 2 with
 | true=>rfl
 | false =>
  cases ilt 16 (ofNat n) with
  | true=>rfl
  | false =>
   show sel (ieq (HU a0 n f).1 0) _ _=_;cases e:ieq (HU a0 n f).1 0 with
   | false=>rfl
   | true =>
    show sel (ilt (HV n f) 2) _ _=some (V.tup [iV (match ilt (HV n f) 2,ilt (Jj n f) 2 with
     | true,_=>((42:Int),(0:Int))
     | false,true=>(43,0)
     | false,false=>_).1,iV (match ilt (HV n f) 2,ilt (Jj n f) 2 with
     | true,_=>((42:Int),(0:Int))
     | false,true=>(43,0)
     | false,false=>_).2],[])
    cases ilt (HV n f) 2 with
    | true=>rfl
    | false =>
     cases ilt (Jj n f) 2 with
     | true=>rfl
     | false =>
      show sel (crR n (Az (λk=>A7 (f k)) n) (λi=>isW (f i)) 2).2 (some (V.tup [iV 44,iV (crR n (Az (λk=>A7 (f k)) n) (λi=>isW (f i)) 2).1],[])) (sel (crR n (Az (λk=>A2 (f k)) n) (λ_=>true) 12).2 (some (V.tup [iV 45,iV (crR n (Az (λk=>A2 (f k)) n) (λ_=>true) 12).1],[])) _)=_;cases crR n (Az (λk=>A7 (f k)) n) (λi=>isW (f i)) 2 with
      | mk x b =>
       cases b with
       | true=>rfl
       | false =>
        cases crR n (Az (λk=>A2 (f k)) n) (λ_=>true) 12 with
        | mk x b=>cases b <;> rfl
theorem p48:As Tryz.prog Gl 138 XE:=by
 refine Am A8 mixed Tryz.func138 (by kernel_rfl) (by kernel_rfl) λvs v h' h=>?_;unfold XE at h;split at h
 ·rename_i a0 u
  obtain ⟨n,f,ha,h1⟩:=Ck h;obtain ⟨hF,hq⟩:=Ac h1;have:=Aa hq;simp only [Prod.mk.injEq] at this;obtain ⟨rfl,rfl⟩:=this;have hn:n <= 4611686018427387904:=DR (Gu hF);have hk:E0 8 (ofNat n) (ofNat n)=true:=Al6 hF;have hx:=Bi Abu [] (G:=Gl);have w:DK (λa=>a) (C84 a0 n f) _:=.c (λh1=>.r 4 h1 <| .k eT <| .l) λh1=>.r 4 h1 <| .c (λh2=>.k h2 <| .l) λh2=>.k h2 <| .k (eL n) <| .k hF <| .c (λh3=>.k (eN h3) <| .k (eL n) <| .k (decide_eq_true hn) <| .c (λh4=>.k h4 <| .l) λh4=>.k h4 <| .k (eL n) <| .k (decide_eq_true hn) <| .c (λh5=>.k h5 <| .l) λh5=>.k h5 <| .k (eL n) <| .k hk <| .r 2 (eL n) <| .k (eJ n) <| .k (decide_eq_true hn) <| .k (RZ (λk=>A7 (f k)) n hn) <| .c (λh6=>.k h6 <| .l) λh6=>.k h6 <| .k (eL n) <| .k hk <| .k (eL n) <| .k (decide_eq_true hn) <| .k (RZ (λk=>A2 (f k)) n hn) <| .c (λh7=>.k h7 <| .l) λh7=>.k h7 <| .l) λh3=>.k (eN h3) <| .l
  exact ⟨_,Bd Gl Ai1 [],_,UY ha,rfl,hx.1,hx.2,DK.of (Pt (Ad5 a0 n f)) (.c (λh1=>.k (eN h1) <| .k (eN h1) <| .k (eN h1) <| .k eF w) λh1=>.k (eN h1) <| .k (eN h1) <| .k (eN h1) <| .c (λh2=>.k (eN h2) w) λh2=>.k (eN h2) .l) (by kernel_rfl),Aw.refl _⟩
 ·cases h
end Go.Proofs.YtkbafjceglhjhaaGreatDoor.Ed
namespace Go.Proofs.YtkbafjceglhjhaaGreatDoor.Ed
open Go.Sy
def Gw (a:Int) (n:Nat) (f:Nat->E6):Int:=(NM a n f).1
def AhC (a:Int) (n:Nat) (f:Nat->E6):Int:=(NM a n f).2
end Go.Proofs.YtkbafjceglhjhaaGreatDoor.Ed
namespace Go.Proofs.YtkbafjceglhjhaaGreatDoor.Ed
open Go.Sy
open Int (ofNat)
theorem Ach {K a b:Nat} (c:Nat) (h:a % K=b % K):(a+c) % K=(b+c) % K:=by rw [Nat.add_mod,h,<- Nat.add_mod]
theorem L2 {K a b c:Nat} (hab:a <= b) (h:(a+c) % K=(b+c) % K):a % K=b % K:=by
 have h1:=Nat.sub_mod_eq_zero_of_mod_eq h.symm;rw [show b+c-(a+c)=b-a by omega] at h1;have h2:(a+(b-a)) % K=a % K:=by rw [Nat.add_mod,h1,Nat.add_zero,Nat.mod_mod]
 rw [show a+(b-a)=b by omega] at h2;exact h2.symm
theorem Um {K a b c:Nat} (h:(a+c) % K=(b+c) % K):a % K=b % K:=by
 rcases Nat.le_total a b with h1 | h1
 ·exact L2 h1 h
 ·exact (L2 h1 h.symm).symm
theorem HW (p:Nat->Bool) (a:Nat):∀ b,Ai p (a+b)=Ai p a+Ai (λi=>p (a+i)) b
 | 0=>rfl
 | b+1=>by
  rw [show a+(b+1)=a+b+1 by omega,Ai,Ai,HW p a b];cases p (a+b) <;> rfl
theorem Pl (p:Nat->Bool) {n k j:Nat} (hk:k<n) (hj:j <= n):Ai p k+Ai (λi=>p ((k+i) % n)) j=if k+j<n then Ai p (k+j) else Ai p n+Ai p (k+j-n):=by
 split
 ·rename_i h
  rw [HW p k j,BZ (q:=λi=>p ((k+i) % n)) (p:=λi=>p (k+i)) j λi hi=>by rw [Nat.mod_eq_of_lt (by omega)]]
 ·rename_i h
  have e:j=(n-k)+(k+j-n):=by omega
  have h1:=HW (λi=>p ((k+i) % n)) (n-k) (k+j-n);rw [<- e] at h1;rw [h1,BZ (q:=λi=>p ((k+i) % n)) (p:=λi=>p (k+i)) (n-k) λi hi=>by rw [Nat.mod_eq_of_lt (by omega)],
   BZ (q:=λi=>p ((k+(n-k+i)) % n)) (p:=p) (k+j-n) λi hi=>by rw [show k+(n-k+i)=i+n by omega,Nat.add_mod_right,Nat.mod_eq_of_lt (by omega)]]
  have h2:=HW p k (n-k);rw [show k+(n-k)=n by omega] at h2;omega
theorem FY (p:Nat->Bool) {n k:Nat} (hk:k<n):Ai (λi=>p ((k+i) % n)) n=Ai p n:=by
 have h:=Pl p hk (Nat.le_refl n);rw [if_neg (by omega),show k+n-n=k by omega] at h;omega
theorem Is (p:Nat->Bool) {n i:Nat} (hi:i<n) (hK:0<Ai p n):Az p n i=ofNat (Ai p i % Ai p n):=by
 unfold Az;rw [decide_eq_true hi];have:=AO p (show i <= n by omega);by_cases h:Ai p i=Ai p n
 ·rw [decide_eq_true h,h,Nat.mod_self]
  rfl
 ·rw [decide_eq_false h,Nat.mod_eq_of_lt (by omega)]
  rfl
theorem RV (p:Nat->Bool) {n k i j:Nat} (hk:k<n) (hK:0<Ai p n) (hi:i<n) (hj:j<n) :
  Az (λi=>p ((k+i) % n)) n i=Az (λi=>p ((k+i) % n)) n j↔Az p n ((k+i) % n)=Az p n ((k+j) % n):=by
 have hn:0<n:=by omega
 have hT:=FY p hk;have key:∀ i,i<n->(Ai p k+Ai (λi=>p ((k+i) % n)) i) % Ai p n=Ai p ((k+i) % n) % Ai p n:=λi hi=>by
  rw [Pl p hk (Nat.le_of_lt hi)];split
  ·rename_i h
   rw [Nat.mod_eq_of_lt h]
  ·rename_i h
   rw [Nat.add_mod_left,show (k+i) % n=k+i-n by rw [show k+i=k+i-n+n by omega,Nat.add_mod_right,Nat.mod_eq_of_lt (by omega)]; omega]
 rw [Is _ hi (by rw [hT]; exact hK),Is _ hj (by rw [hT]; exact hK),Is p (Nat.mod_lt _ hn) hK,Is p (Nat.mod_lt _ hn) hK,hT,<- key i hi,<- key j hj];constructor
 ·intro h
  have h:=Int.ofNat.inj h;have:=Ach (Ai p k) h;rw [Nat.add_comm _ (Ai p k),Nat.add_comm _ (Ai p k)] at this;rw [this]
 ·intro h
  have h:=Int.ofNat.inj h;rw [Nat.add_comm (Ai p k),Nat.add_comm (Ai p k)] at h;rw [Um h]
theorem CL {q:Nat->Bool}:∀ {d i:Nat},AQ q d i=none↔∀ k,i <= k->k<i+d->q k=false
 | 0,i=>⟨λ_ k h1 h2=>by omega,λ_=>rfl⟩
 | d+1,i=>by
  cases hq:q i with
  | true =>rw [EN hq];refine ⟨λh=>(by cases h),λh=>?_⟩;have:=h i (Nat.le_refl i) (by omega);rw [hq] at this;cases this
  | false =>
   rw [EO hq,CL];refine ⟨λh k h1 h2=>?_,λh k h1 h2=>h k (by omega) (by omega)⟩;by_cases e:k=i
   ·rw [e]; exact hq
   ·exact h k (by omega) (by omega)
structure IsCycle (a:Int) (n:Nat) (f:Nat->E6):Prop where
 arch:ieq a 1=true ∨ ieq a 2=true
 lo:2 <= n
 hi:n <= 16
 legal:∀ i,i<n->Do a f i=false
 meets:∀ i,i<n->FH n f i=false
 outer:2 <= Ai (λk=>A2 (f k)) n
 moves:2 <= Ai (λk=>A7 (f k)) n
 writes:∀ i,i<n->AV n (Az (λk=>A7 (f k)) n) (λi=>isW (f i)) 2 i=false
 crowd:∀ i,i<n->AV n (Az (λk=>A2 (f k)) n) (λ_=>true) 12 i=false
theorem SV {n:Nat} {l:Nat->Int} {c:Nat->Bool} {q:Int} (h:∀ i,i<n->AV n l c q i=false):crR n l c q=(0,false):=by
 unfold crR;rw [CL.2 λk _ h2=>h k (by omega)]
theorem Pf {n:Nat} {l:Nat->Int} {c:Nat->Bool} {q:Int} (h:(crR n l c q).2=false):∀ i,i<n->AV n l c q i=false:=by
 unfold crR at h;cases hc:AQ (AV n l c q) n 0 with
 | some t=>rw [hc] at h; cases h
 | none=>exact λi hi=>CL.1 hc i (Nat.zero_le i) (by omega)
theorem IsCycle.ok {a:Int} {n:Nat} {f:Nat->E6} (h:IsCycle a n f):NM a n f=(0,0):=by
 have e1:HU a n f=(0,0):=by
  unfold HU;rw [CL.2 λk _ h2=>h.legal k (by omega)];show (match AQ (FH n f) n 0 with | some t=>((41:Int),ofNat t) | none=>(0,0))=(0,0)
  rw [CL.2 λk _ h2=>h.meets k (by omega)]
 have c1:ilt (ofNat n) 2=false:=by rw [show (2:Int)=ofNat 2 from rfl,Dv,decide_eq_false (by have:=h.lo; omega)]
 have c2:ilt 16 (ofNat n)=false:=by rw [show (16:Int)=ofNat 16 from rfl,Dv,decide_eq_false (by have:=h.hi; omega)]
 have c3:ilt (HV n f) 2=false:=by unfold HV; rw [show (2:Int)=ofNat 2 from rfl,Dv,decide_eq_false (by have:=h.outer; omega)]
 have c4:ilt (Jj n f) 2=false:=by unfold Jj; rw [show (2:Int)=ofNat 2 from rfl,Dv,decide_eq_false (by have:=h.moves; omega)]
 rw [Ww h.arch];unfold LU;rw [c1,c2,e1];show SZ n f=(0,0);unfold SZ;rw [c3,c4];show UP n f=(0,0);unfold UP;rw [SV h.writes,SV h.crowd]
theorem Bj {a:Int} {n:Nat} {f:Nat->E6} (h:ieq (Gw a n f) 0=true):IsCycle a n f:=by
 have h:=Cc h;unfold Gw at h;have ha:ieq a 1=true ∨ ieq a 2=true:=by
  cases ca:ieq a 1 with
  | true=>exact .inl rfl
  | false =>
   cases cb:ieq a 2 with
   | true=>exact .inr rfl
   | false =>unfold NM at h;rw [ca,cb] at h;cases h
 rw [Ww ha] at h;unfold LU at h;cases c1:ilt (ofNat n) 2 with
 | true=>rw [c1] at h; cases h
 | false =>
  cases c2:ilt 16 (ofNat n) with
  | true=>rw [c1,c2] at h; cases h
  | false =>
   rw [c1,c2] at h;have h:(match HU a n f,ieq (HU a n f).1 0 with | r,false=>r | _,true=>SZ n f).1=0:=h
   cases c3:ieq (HU a n f).1 0 with
   | false =>rw [c3] at h;have h:(HU a n f).1=0:=h;rw [h] at c3;cases c3
   | true =>
    rw [c3] at h;have h:(SZ n f).1=0:=h;have c3:=Cc c3;unfold SZ at h;cases c4:ilt (HV n f) 2 with
    | true=>rw [c4] at h; cases h
    | false =>
     cases c5:ilt (Jj n f) 2 with
     | true=>rw [c4,c5] at h; cases h
     | false =>
      rw [c4,c5] at h;have h:(UP n f).1=0:=h;unfold UP at h;cases c6:(crR n (Az (λk=>A7 (f k)) n) (λi=>isW (f i)) 2).2 with
      | true =>rw [show crR n (Az (λk=>A7 (f k)) n) (λi=>isW (f i)) 2=((crR n (Az (λk=>A7 (f k)) n) (λi=>isW (f i)) 2).1,true) from Prod.ext rfl c6] at h;cases h
      | false =>
       rw [show crR n (Az (λk=>A7 (f k)) n) (λi=>isW (f i)) 2=((crR n (Az (λk=>A7 (f k)) n) (λi=>isW (f i)) 2).1,false) from Prod.ext rfl c6] at h;cases c7:(crR n (Az (λk=>A2 (f k)) n) (λ_=>true) 12).2 with
       | true =>rw [show crR n (Az (λk=>A2 (f k)) n) (λ_=>true) 12=((crR n (Az (λk=>A2 (f k)) n) (λ_=>true) 12).1,true) from Prod.ext rfl c7] at h;cases h
       | false =>
        have e1:AQ (Do a f) n 0=none∧AQ (FH n f) n 0=none:=by
         unfold HU at c3;cases d1:AQ (Do a f) n 0 with
         | some t =>
          rw [d1] at c3;cases d2:ieq (Gn a (f t)) 0 with
          | true=>simp only [d2] at c3; cases c3
          | false=>simp only [d2] at c3; cases c3
         | none =>
          rw [d1] at c3;cases d2:AQ (FH n f) n 0 with
          | some t=>rw [d2] at c3; cases c3
          | none=>exact ⟨rfl,rfl⟩
        rw [show (2:Int)=ofNat 2 from rfl,Dv] at c1;rw [show (16:Int)=ofNat 16 from rfl,Dv] at c2;unfold HV at c4;rw [show (2:Int)=ofNat 2 from rfl,Dv] at c4;unfold Jj at c5;rw [show (2:Int)=ofNat 2 from rfl,Dv] at c5;have c1:=of_decide_eq_false c1;have c2:=of_decide_eq_false c2;have c4:=of_decide_eq_false c4;have c5:=of_decide_eq_false c5;exact ⟨ha,by omega,by omega,λi hi=>CL.1 e1.1 i (Nat.zero_le i) (by omega),λi hi=>CL.1 e1.2 i (Nat.zero_le i) (by omega),by omega,by omega,Pf c6,Pf c7⟩
theorem H8 (p c:Nat->Bool) {n k:Nat} (hk:k<n) (hK:0<Ai p n) (q:Int) {i:Nat} (hi:i<n) :
  AV n (Az (λi=>p ((k+i) % n)) n) (λi=>c ((k+i) % n)) q i=AV n (Az p n) c q ((k+i) % n):=by
 unfold AV Lg;rw [BZ (q:=Co (Az (λi=>p ((k+i) % n)) n) (λi=>c ((k+i) % n)) (Az (λi=>p ((k+i) % n)) n i)) (p:=λj=>Co (Az p n) c (Az p n ((k+i) % n)) ((k+j) % n)) n λj hj=>by
  unfold Co;have h1:=RV p hk hK hj hi;by_cases e:Az (λi=>p ((k+i) % n)) n j=Az (λi=>p ((k+i) % n)) n i
  ·rw [e,h1.1 e,Qw,Qw]
  ·rw [show ieq (Az (λi=>p ((k+i) % n)) n j) (Az (λi=>p ((k+i) % n)) n i)=false by simp [ieq,e],show ieq (Az p n ((k+j) % n)) (Az p n ((k+i) % n))=false by
    have:¬ Az p n ((k+j) % n)=Az p n ((k+i) % n):=λh=>e (h1.2 h);simp [ieq,this]]]
 rw [FY (Co (Az p n) c (Az p n ((k+i) % n))) hk]
theorem IsCycle.turned {a:Int} {n:Nat} {f:Nat->E6} (h:IsCycle a n f) {k:Nat} (hk:k<n):IsCycle a n λi=>f ((k+i) % n):=by
 have hn:0<n:=by omega
 have ho:=h.outer;have hm:=h.moves;refine ⟨h.arch,h.lo,h.hi,λi hi=>h.legal _ (Nat.mod_lt _ hn),λi hi=>?_,?_,?_,λi hi=>?_,λi hi=>?_⟩
 ·have:=h.meets ((k+i) % n) (Nat.mod_lt _ hn)
  unfold FH at this ⊢;rw [Nat.mod_add_mod] at this;show AN (ieq (f ((k+i) % n)).dst (f ((k+(i+1) % n) % n)).src)=false;rw [Nat.add_mod_mod,<- Nat.add_assoc];exact this
 ·show 2 <= Ai (λi=>(λk=>A2 (f k)) ((k+i) % n)) n
  rw [FY (λk=>A2 (f k)) hk];exact ho
 ·show 2 <= Ai (λi=>(λk=>A7 (f k)) ((k+i) % n)) n
  rw [FY (λk=>A7 (f k)) hk];exact hm
 ·show AV n (Az (λi=>(λk=>A7 (f k)) ((k+i) % n)) n) (λi=>(λk=>isW (f k)) ((k+i) % n)) 2 i=false
  rw [H8 (λk=>A7 (f k)) (λk=>isW (f k)) hk (by omega) 2 hi];exact h.writes _ (Nat.mod_lt _ hn)
 ·show AV n (Az (λi=>(λk=>A2 (f k)) ((k+i) % n)) n) (λi=>(λ_=>true) ((k+i) % n)) 12 i=false
  rw [H8 (λk=>A2 (f k)) (λ_=>true) hk (by omega) 12 hi];exact h.crowd _ (Nat.mod_lt _ hn)
theorem IsCycle.may {a:Int} {n:Nat} {f:Nat->E6} (h:IsCycle a n f):Ef n f=true:=F6.2 λi hi=>by
 have h1:=h.legal i hi;unfold Do at h1;cases c:ieq (Gn a (f i)) 0 with
 | false=>rw [c] at h1; cases h1
 | true =>
  have c:=Cc c;rcases h.arch with ha | ha
  ·rw [Cc ha] at c; exact c
  ·rw [Cc ha] at c; exact c
end Go.Proofs.YtkbafjceglhjhaaGreatDoor.Ed
