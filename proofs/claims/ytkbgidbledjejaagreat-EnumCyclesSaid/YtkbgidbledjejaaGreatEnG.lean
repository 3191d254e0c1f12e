/-
  Check, the program's and the document's: one answer. No conditions.
-/
import Derived.Test.YtkbgidbledjejaaGreatCyR
import Derived.Test.YtkbgidbledjejaaGreatCyT
import Derived.Test.YtkbgidbledjejaaGreatEnF
namespace Go.Proofs.YtkbgidbledjejaaGreat.Ed
open Go.Sy
open Int (ofNat)
noncomputable def Aad:AG:=(45,Cm λe=>iV (AE e))::(46,ap2 gI toE λa e=>out (Ns a e))::(47,Cm λe=>bV (BY e))::(48,Cm λe=>bV (BI e))::(49,YQ)::(50,YP)::(51,AeC)::[]
theorem AfJ:Al Tryz.prog Gl Aad:=.cons p29 <| .cons p33 <| .cons p60 <| .cons p61 <| .cons p94 <| .cons p95 <| .cons p96 .nil
def Ip (n:Nat) (f:Nat->E6):Int:=ofNat (AA (λk=>BY (f k)) n)
def Jf (n:Nat) (f:Nat->E6):Int:=ofNat (AA (λk=>BI (f k)) n)
def RF (n:Nat) (f:Nat->E6):Int×Int :=
 match crR n (Bu (λk=>BI (f k)) n) (λi=>isW (f i)) 2 with
 | (i,true)=>(44,i)
 | (_,false)=>match crR n (Bu (λk=>BY (f k)) n) (λ_=>true) 12 with
   | (i,true)=>(45,i)
   | (_,false)=>(0,0)
def U4 (n:Nat) (f:Nat->E6):Int×Int :=
 match ilt (Ip n f) 2,ilt (Jf n f) 2 with
 | true,_=>(42,0)
 | false,true=>(43,0)
 | false,false=>RF n f
def Lc (a:Int) (n:Nat) (f:Nat->E6):Int×Int :=
 match ilt (ofNat n) 2,ilt 16 (ofNat n) with
 | true,_=>(40,0)
 | false,true=>(40,0)
 | false,false=>match Io a n f,ieq (Io a n f).1 0 with
  | r,false=>r
  | _,true=>U4 n f
def Gr (a:Int) (n:Nat) (f:Nat->E6):Int×Int :=
 match ieq a 1,ieq a 2 with
 | false,false=>(1,0)
 | _,_=>Lc a n f
def U3:List V->A3
 | [.val (.int .i64 a),v]=>apL v λn f=>.br (Cl n) (out (.tup [iV (Gr a n f).1,iV (Gr a n f).2])) .fail
 | _=>.fail
theorem ZJ {a:Int} {n:Nat} {f:Nat->E6} (h:ieq a 1=true ∨ ieq a 2=true):Gr a n f=Lc a n f:=by
 unfold Gr;rcases h with h | h
 ·rw [h]
 ·rw [h]
  cases ieq a 1 <;> rfl
theorem Ap8 {n:Nat} (h:Cl n=true):Fy 8 (ofNat n) (ofNat n)=true:=by
 have:=KX h;simp only [Fy,Bool.and_eq_true,decide_eq_true_eq,Int.ofNat_eq_natCast];omega
theorem Aks {i n:Nat} (h:i<n) (hn:n <= 4611686018427387904):Av (ile 0 (Ay (wr .i64 (Ai (ofNat i) 1)) (ofNat n))) (ilt (Ay (wr .i64 (Ai (ofNat i) 1)) (ofNat n)) (ofNat n))=true:=by
 rw [PQ h hn];exact Af (Nat.mod_lt _ (by omega))
def Anv:Lp:=⟨bmK 133 0 [0,1,4,5,6,7,8,9],0,bmK 133 0 [1,4,5,6,7,8],0,4611686018427387905⟩
def S52 (a0:Int) (n:Nat) (f:Nat->E6) (c:Int) (a:Int×Int) (j:Nat->V):St:=⟨jsV 133 0 j [(0,iV a0),(1,.sl 6 n (λi=>eV (f i))),(4,iV 0),(5,iV 0),(6,nV n),(7,iV a.1),(8,iV a.2),(9,iV c)],[]⟩
noncomputable def B52 (L:LT):St->T (Ex×St):=λst=>A6 tab ⟨A5 Aad,L,Gl⟩ (Aw Tryz.f22 0) 0 st
def Ab5 (a0:Int) (n:Nat) (f:Nat->E6) (i:Nat) (a:Int×Int):Ex×St:=(.rt,⟨jsV 133 0 Ac [(1,.sl 6 n (λi=>eV (f i))),(4,iV 5),(5,nV i),(6,nV n),(7,iV a.1),(8,iV a.2)],[]⟩)
def Ab4 (a0:Int) (n:Nat) (f:Nat->E6) (i:Nat) (a:Int×Int):Ex×St:=(.rt,⟨jsV 133 0 Ac [(1,.sl 6 n (λi=>eV (f i))),(4,iV 30),(5,nV i),(6,nV n),(7,iV a.1),(8,iV a.2)],[]⟩)
def g52 (a0:Int) (n:Nat) (f:Nat->E6) (i:Nat) (a:Int×Int):T ((Int×Int) ⊕ (Ex×St)):=.br (ieq (AE (f i)) 0) (.br (IG a0 (f i)) (.br (BY (f i)) (.br (BI (f i)) (.leaf (.inl ((wr .i64 (Ai a.1 1)),wr .i64 (Ai a.2 1)))) (.leaf (.inl ((wr .i64 (Ai a.1 1)),a.2)))) (.br (BI (f i)) (.leaf (.inl (a.1,wr .i64 (Ai a.2 1)))) (.leaf (.inl (a.1,a.2))))) (.leaf (.inr (Ab5 a0 n f i a)))) (.leaf (.inr (Ab4 a0 n f i a)))
def XN (a0:Int) (n:Nat) (f:Nat->E6) (a:Int×Int):Ex×St:=(.ex 0,⟨jsV 133 0 Ac [(1,.sl 6 n (λi=>eV (f i))),(4,iV 0),(5,iV 0),(6,nV n),(7,iV a.1),(8,iV a.2)],[]⟩)
theorem r52 (L:LT) (a0:Int) (n:Nat) (f:Nat->E6)  (hn:n <= 4611686018427387904) {e:Ex×St} {a:Int×Int} {j:Nat->V} (h:Ds (g52 a0 n f) (XN a0 n f) n 0 a=some e):(Ax (B52 L) Anv 4611686018427387905 (S52 a0 n f 0 a j)).sem=some (exR e) :=
 De FF hn (λi a j r hi h=>DK.ok (L:=goR (S52 a0 n f) exR i) (.k (ofNat_lt hi) <| .k (Af hi) <| .c (λh1=>.k (eN h1) <| .k (Af hi) <| .c (λh2=>.k (eN h2) <| .k (Af hi) <| .c (λh3=>.k h3 <| .k (Af hi) <| .c (λh4=>.k h4 <| .l) λh4=>.k h4 <| .l) λh3=>.k h3 <| .k (Af hi) <| .c (λh5=>.k h5 <| .l) λh5=>.k h5 <| .l) λh2=>.k (eN h2) <| .l) λh1=>.k (eN h1) <| .l) (by kernel_rfl) h) (λa j=>DK.ok (C:=.leaf (XN a0 n f a)) (L:=exR) (.k (A1 (Nat.le_refl n)) .l) (by kernel_rfl) rfl) (Nat.zero_add _).symm (Nat.lt_succ_of_le hn) h
def Adz:Lp:=⟨bmK 133 0 [1,4,5,6,7,8,12],0,bmK 133 0 [1,4,5,6,7,8],0,4611686018427387905⟩
def Ai9 (a0:Int) (n:Nat) (f:Nat->E6) (c:Int) (a:Int×Int) (j:Nat->V):St:=⟨jsV 133 0 j [(1,.sl 6 n (λi=>eV (f i))),(4,iV 0),(5,iV 0),(6,nV n),(7,iV a.1),(8,iV a.2),(12,iV c)],[]⟩
noncomputable def Ao4 (L:LT):St->T (Ex×St):=λst=>A6 tab ⟨A5 Aad,L,Gl⟩ (Aw Tryz.f22 2) 2 st
def Ln (a0:Int) (n:Nat) (f:Nat->E6) (i:Nat) (a:Int×Int):Ex×St:=(.rt,⟨jsV 133 0 Ac [(1,.sl 6 n (λi=>eV (f i))),(4,iV 41),(5,nV i),(6,nV n),(7,iV a.1),(8,iV a.2)],[]⟩)
def Wc (a0:Int) (n:Nat) (f:Nat->E6) (i:Nat) (a:Int×Int):T ((Int×Int) ⊕ (Ex×St)):=.br (ieq (f i).dst (f (toN (Ay (wr .i64 (Ai (ofNat i) 1)) (ofNat n)))).src) (.leaf (.inl (a.1,a.2))) (.leaf (.inr (Ln a0 n f i a)))
def Q2 (a0:Int) (n:Nat) (f:Nat->E6) (a:Int×Int):Ex×St:=(.ex 2,⟨jsV 133 0 Ac [(1,.sl 6 n (λi=>eV (f i))),(4,iV 0),(5,iV 0),(6,nV n),(7,iV a.1),(8,iV a.2)],[]⟩)
theorem AhP (L:LT) (a0:Int) (n:Nat) (f:Nat->E6)  (hn:n <= 4611686018427387904) {e:Ex×St} {a:Int×Int} {j:Nat->V} (h:Ds (Wc a0 n f) (Q2 a0 n f) n 0 a=some e):(Ax (Ao4 L) Adz 4611686018427387905 (Ai9 a0 n f 0 a j)).sem=some (exR e) :=
 De FF hn (λi a j r hi h=>DK.ok (L:=goR (Ai9 a0 n f) exR i) (.k (ofNat_lt hi) <| .k (Af hi) <| .k (Ap5 hi) <| .k (Aks hi hn) <| .c (λh1=>.k (eN h1) <| .l) λh1=>.k (eN h1) <| .l) (by kernel_rfl) h) (λa j=>DK.ok (C:=.leaf (Q2 a0 n f a)) (L:=exR) (.k (A1 (Nat.le_refl n)) .l) (by kernel_rfl) rfl) (Nat.zero_add _).symm (Nat.lt_succ_of_le hn) h
def Ady:Lp:=⟨bmK 133 0 [1,4,5,6,13,14,15],2,bmK 133 0 [1,4,5,6,13],2,4611686018427387905⟩
def Ai8 (a0:Int) (n:Nat) (f:Nat->E6) (c:Int) (a:(Nat->Int)×(Nat->Int)) (j:Nat->V):St:=⟨jsV 133 0 j [(1,.sl 6 n (λi=>eV (f i))),(4,iV 0),(5,iV 0),(6,nV n),(13,.ref 0),(14,.ref 1),(15,iV c)],[.row 3 1 n (λk=>iV (a.1 k)),.row 3 1 n (λk=>iV (a.2 k))]⟩
noncomputable def Ao3 (L:LT):St->T (Ex×St):=λst=>A6 tab ⟨A5 Aad,L,Gl⟩ (Aw Tryz.f22 4) 4 st
def Lm (a0:Int) (n:Nat) (f:Nat->E6) (i:Nat) (a:(Nat->Int)×(Nat->Int)):Ex×St:=(.rt,⟨jsV 133 0 Ac [(1,.sl 6 n (λi=>eV (f i))),(4,iV 44),(5,nV i),(6,nV n),(13,.ref 0)],[.row 3 1 n (λk=>iV (a.1 k)),.row 3 1 n (λk=>iV (a.2 k))]⟩)
def Zv (a0:Int) (n:Nat) (f:Nat->E6) (i:Nat) (a:(Nat->Int)×(Nat->Int)):T (((Nat->Int)×(Nat->Int)) ⊕ (Ex×St)):=.br (ieq (f i).src 2) (.br (ilt 2 (U1 n a.2 (λi=>bor (AN true) (isW (f i))) (a.2 i))) (.leaf (.inr (Lm a0 n f i a))) (.leaf (.inl (a.1,a.2)))) (.leaf (.inl (a.1,a.2)))
def Q1 (a0:Int) (n:Nat) (f:Nat->E6) (a:(Nat->Int)×(Nat->Int)):Ex×St:=(.ex 4,⟨jsV 133 0 Ac [(1,.sl 6 n (λi=>eV (f i))),(4,iV 0),(5,iV 0),(6,nV n),(13,.ref 0)],[.row 3 1 n (λk=>iV (a.1 k)),.row 3 1 n (λk=>iV (a.2 k))]⟩)
theorem AhO (L:LT) (a0:Int) (n:Nat) (f:Nat->E6)  (hn:n <= 4611686018427387904) {e:Ex×St} {a:(Nat->Int)×(Nat->Int)} {j:Nat->V} (h:Ds (Zv a0 n f) (Q1 a0 n f) n 0 a=some e):(Ax (Ao3 L) Ady 4611686018427387905 (Ai8 a0 n f 0 a j)).sem=some (exR e) :=
 De FF hn (λi a j r hi h=>DK.ok (L:=goR (Ai8 a0 n f) exR i) (.k (ofNat_lt hi) <| .k (Af hi) <| .c (λh1=>.r 5 h1 <| .k (Af hi) <| .k h1 <| .k (decide_eq_true hi) <| .k h1 <| .r 2 (eL n) <| .k (eJ n) <| .k (decide_eq_true hn) <| .r 2 h1 <| .c (λh2=>.k h2 <| .l) λh2=>.k h2 <| .l) λh1=>.r 9 h1 <| .k eF <| .l) (by kernel_rfl) h) (λa j=>DK.ok (C:=.leaf (Q1 a0 n f a)) (L:=exR) (.k (A1 (Nat.le_refl n)) .l) (by kernel_rfl) rfl) (Nat.zero_add _).symm (Nat.lt_succ_of_le hn) h
def Adx:Lp:=⟨bmK 133 0 [1,4,5,6,13,16],2,bmK 133 0 [4,5],0,4611686018427387905⟩
def Ai7 (a0:Int) (n:Nat) (f:Nat->E6) (c:Int) (a:(Nat->Int)×(Nat->Int)) (j:Nat->V):St:=⟨jsV 133 0 j [(1,.sl 6 n (λi=>eV (f i))),(4,iV 0),(5,iV 0),(6,nV n),(13,.ref 0),(16,iV c)],[.row 3 1 n (λk=>iV (a.1 k)),.row 3 1 n (λk=>iV (a.2 k))]⟩
noncomputable def Ao2 (L:LT):St->T (Ex×St):=λst=>A6 tab ⟨A5 Aad,L,Gl⟩ (Aw Tryz.f22 6) 6 st
def Ll (a0:Int) (n:Nat) (f:Nat->E6) (i:Nat) (a:(Nat->Int)×(Nat->Int)):Ex×St:=(.rt,⟨jsV 133 0 Ac [(4,iV 45),(5,nV i)],[]⟩)
def Zu (a0:Int) (n:Nat) (f:Nat->E6) (i:Nat) (a:(Nat->Int)×(Nat->Int)):T (((Nat->Int)×(Nat->Int)) ⊕ (Ex×St)):=.br (ilt 12 (U1 n a.1 (λi=>bor (AN false) (isW (f i))) (a.1 i))) (.leaf (.inr (Ll a0 n f i a))) (.leaf (.inl (a.1,a.2)))
def Q0 (a0:Int) (n:Nat) (f:Nat->E6) (a:(Nat->Int)×(Nat->Int)):Ex×St:=(.ex 6,⟨jsV 133 0 Ac [(4,iV 0),(5,iV 0)],[]⟩)
theorem AhN (L:LT) (a0:Int) (n:Nat) (f:Nat->E6)  (hn:n <= 4611686018427387904) {e:Ex×St} {a:(Nat->Int)×(Nat->Int)} {j:Nat->V} (h:Ds (Zu a0 n f) (Q0 a0 n f) n 0 a=some e):(Ax (Ao2 L) Adx 4611686018427387905 (Ai7 a0 n f 0 a j)).sem=some (exR e) :=
 De FF hn (λi a j r hi h=>DK.ok (L:=goR (Ai7 a0 n f) exR i) (.k (ofNat_lt hi) <| .k (Af hi) <| .k (decide_eq_true hi) <| .r 2 (eL n) <| .k (eJ n) <| .k (decide_eq_true hn) <| .c (λh1=>.k h1 <| .l) λh1=>.k h1 <| .l) (by kernel_rfl) h) (λa j=>DK.ok (C:=.leaf (Q0 a0 n f a)) (L:=exR) (.k (A1 (Nat.le_refl n)) .l) (by kernel_rfl) rfl) (Nat.zero_add _).symm (Nat.lt_succ_of_le hn) h
def PV:List (Nat×Lp×List (Nat×(Nat->V))):=[(0,Anv,[]),(2,Adz,[]),(4,Ady,[]),(6,Adx,[])]
abbrev pO (n:Nat) (f:Nat->E6):Nat->Int:=Bu (λk=>BY (f k)) n
abbrev pM (n:Nat) (f:Nat->E6):Nat->Int:=Bu (λk=>BI (f k)) n
abbrev Aon (n:Nat) (f:Nat->E6):Int×Int:=(Ip n f,Jf n f)
abbrev Ahr (n:Nat) (f:Nat->E6):(Nat->Int)×(Nat->Int):=(pO n f,pM n f)
theorem XE {a:Int} {e:E6} (h:Bm a=true):Hm a e=AE e:=by unfold Hm; rw [h]; rfl
theorem kn1 {a:Int} (h:ieq a 1=true):Bm a=true:=by unfold Bm; rw [h]; rfl
theorem kn2 {a:Int} (h:ieq a 2=true):Bm a=true:=by unfold Bm; rw [h]; cases ieq a 1 <;> rfl
section
variable {a0:Int} {n:Nat} {f:Nat->E6}
def RH (f:Nat->E6) (i:Nat):Int×Int:=(ofNat (AA (λk=>BY (f k)) i),ofNat (AA (λk=>BI (f k)) i))
def AeQ (a0:Int) (n:Nat) (f:Nat->E6) (i:Nat):Ex×St:=sel (ieq (Hm a0 (f i)) 0) (Ab5 a0 n f i (RH f i)) (Ab4 a0 n f i (RH f i))
theorem c52 (hK:Bm a0=true) (hn:n <= 4611686018427387904) {i:Nat} (hi:i<n) (h:DN a0 f i=false):(g52 a0 n f i (RH f i)).sem=some (.inl (RH f (i+1))):=by
 have h1:=DU (λk=>BY (f k)) i;have h2:=DU (λk=>BI (f k)) i;unfold DN at h;rw [XE hK] at h;have w1:=Ti (show AA (λk=>BY (f k)) i<n by omega) hn;have w2:=Ti (show AA (λk=>BI (f k)) i<n by omega) hn;show sel (ieq (AE (f i)) 0) _ _=_;cases e1:ieq (AE (f i)) 0 with
 | false=>rw [e1] at h; cases h
 | true =>
  show sel (IG a0 (f i)) _ _=_;cases e2:IG a0 (f i) with
  | false=>rw [e1,e2] at h; cases h
  | true =>
   show sel (BY (f i)) (sel (BI (f i)) (some _) (some _)) (sel (BI (f i)) (some _) (some _))=some (Sum.inl (ofNat (match BY (f i) with
    | true=>AA (λk=>BY (f k)) i+1
    | false=>AA (λk=>BY (f k)) i),ofNat (match BI (f i) with
    | true=>AA (λk=>BI (f k)) i+1
    | false=>AA (λk=>BI (f k)) i)))
   cases BY (f i) <;> cases BI (f i) <;> simp only [sel,RH,w1,w2] <;> rfl
theorem t52 (hK:Bm a0=true) {i:Nat} (h:DN a0 f i=true):(g52 a0 n f i (RH f i)).sem=some (.inr (AeQ a0 n f i)):=by
 unfold DN at h;unfold AeQ;rw [XE hK] at h ⊢;show sel (ieq (AE (f i)) 0) _ _=_;cases e1:ieq (AE (f i)) 0 with
 | false=>rfl
 | true =>
  show sel (IG a0 (f i)) _ _=_;cases e2:IG a0 (f i) with
  | false=>rfl
  | true=>rw [e1,e2] at h; cases h
theorem ApM (hK:Bm a0=true) (hn:n <= 4611686018427387904) (h:isN (A0 (DN a0 f) n 0)=true):Ds (g52 a0 n f) (XN a0 n f) n 0 (0,0)=some (XN a0 n f (Ip n f,Jf n f)):=IQ (acc:=RH f) (λ_ hi=>c52 hK hn hi) (λ_ _=>t52 hK) h
theorem AnF (hK:Bm a0=true) (hn:n <= 4611686018427387904) (h:isN (A0 (DN a0 f) n 0)=false):Ds (g52 a0 n f) (XN a0 n f) n 0 (0,0)=some (AeQ a0 n f (tO (DN a0 f) n)):=IP (acc:=RH f) (λ_ hi=>c52 hK hn hi) (λ_ _=>t52 hK) h
theorem ApO (hK:Bm a0=true) (hn:n <= 4611686018427387904) (h:isN (A0 (DN a0 f) n 0)=false) (g:ieq (Hm a0 (f (tO (DN a0 f) n))) 0=true):Ds (g52 a0 n f) (XN a0 n f) n 0 (0,0)=some (Ab5 a0 n f (tO (DN a0 f) n) (RH f (tO (DN a0 f) n))):=by rw [AnF hK hn h,AeQ,g]; rfl
theorem ApN (hK:Bm a0=true) (hn:n <= 4611686018427387904) (h:isN (A0 (DN a0 f) n 0)=false) (g:ieq (Hm a0 (f (tO (DN a0 f) n))) 0=false):Ds (g52 a0 n f) (XN a0 n f) n 0 (0,0)=some (Ab4 a0 n f (tO (DN a0 f) n) (RH f (tO (DN a0 f) n))):=by rw [AnF hK hn h,AeQ,g]; rfl
theorem ZN (hn:n <= 4611686018427387904) {a:Int×Int} {i:Nat} (hi:i<n):(Wc a0 n f i a).sem=sel (Hg n f i) (some (.inr (Ln a0 n f i a))) (some (.inl a)):=by
 unfold Wc Hg;rw [PQ hi hn,show toN (ofNat ((i+1) % n))=(i+1) % n from rfl];cases ieq (f i).dst (f ((i+1) % n)).src <;> rfl
theorem ApL (hn:n <= 4611686018427387904) {a:Int×Int} (h:isN (A0 (Hg n f) n 0)=true):Ds (Wc a0 n f) (Q2 a0 n f) n 0 a=some (Q2 a0 n f a):=IQ (acc:=λ_=>a) (x:=λi=>Ln a0 n f i a) (λi hi hq=>by rw [ZN hn hi,hq]; rfl) (λi hi hq=>by rw [ZN hn hi,hq]; rfl) h
theorem ApK (hn:n <= 4611686018427387904) {a:Int×Int} (h:isN (A0 (Hg n f) n 0)=false):Ds (Wc a0 n f) (Q2 a0 n f) n 0 a=some (Ln a0 n f (tO (Hg n f) n) a):=IP (acc:=λ_=>a) (x:=λi=>Ln a0 n f i a) (λi hi hq=>by rw [ZN hn hi,hq]; rfl) (λi hi hq=>by rw [ZN hn hi,hq]; rfl) h
theorem ZM {a:(Nat->Int)×(Nat->Int)} {i:Nat}:(Zv a0 n f i a).sem=sel (Bf n a.2 (λi=>isW (f i)) 2 i) (some (.inr (Lm a0 n f i a))) (some (.inl a)):=by
 show sel (isW (f i)) _ _=sel (Av (isW (f i)) _) _ _;cases isW (f i) <;> rfl
theorem ApJ {a:(Nat->Int)×(Nat->Int)} (h:isN (A0 (Bf n a.2 (λi=>isW (f i)) 2) n 0)=true):Ds (Zv a0 n f) (Q1 a0 n f) n 0 a=some (Q1 a0 n f a):=IQ (acc:=λ_=>a) (x:=λi=>Lm a0 n f i a) (λi _ hq=>by rw [ZM,hq]; rfl) (λi _ hq=>by rw [ZM,hq]; rfl) h
theorem ApI {a:(Nat->Int)×(Nat->Int)} (h:isN (A0 (Bf n a.2 (λi=>isW (f i)) 2) n 0)=false):Ds (Zv a0 n f) (Q1 a0 n f) n 0 a=some (Lm a0 n f (tO (Bf n a.2 (λi=>isW (f i)) 2) n) a):=IP (acc:=λ_=>a) (x:=λi=>Lm a0 n f i a) (λi _ hq=>by rw [ZM,hq]; rfl) (λi _ hq=>by rw [ZM,hq]; rfl) h
theorem ZL {a:(Nat->Int)×(Nat->Int)} {i:Nat}:(Zu a0 n f i a).sem=sel (Bf n a.1 (λ_=>true) 12 i) (some (.inr (Ll a0 n f i a))) (some (.inl a)):=rfl
theorem ApH {a:(Nat->Int)×(Nat->Int)} (h:isN (A0 (Bf n a.1 (λ_=>true) 12) n 0)=true):Ds (Zu a0 n f) (Q0 a0 n f) n 0 a=some (Q0 a0 n f a):=IQ (acc:=λ_=>a) (x:=λi=>Ll a0 n f i a) (λi _ hq=>by rw [ZL,hq]; rfl) (λi _ hq=>by rw [ZL,hq]; rfl) h
theorem ApG {a:(Nat->Int)×(Nat->Int)} (h:isN (A0 (Bf n a.1 (λ_=>true) 12) n 0)=false):Ds (Zu a0 n f) (Q0 a0 n f) n 0 a=some (Ll a0 n f (tO (Bf n a.1 (λ_=>true) 12) n) a):=IP (acc:=λ_=>a) (x:=λi=>Ll a0 n f i a) (λi _ hq=>by rw [ZL,hq]; rfl) (λi _ hq=>by rw [ZL,hq]; rfl) h
end
def C52 (a0:Int) (n:Nat) (f:Nat->E6):A3:=.br (ilt (ofNat n) 2) (.leaf ((.tup [iV 40,iV 0]),[])) (.br (ilt 16 (ofNat n)) (.leaf ((.tup [iV 40,iV 0]),[])) (.br (isN (A0 (DN a0 f) n 0)) (.br (isN (A0 (Hg n f) n 0)) (.br (ilt (Ip n f) 2) (.leaf ((.tup [iV 42,iV 0]),[])) (.br (ilt (Jf n f) 2) (.leaf ((.tup [iV 43,iV 0]),[])) (.br (isN (A0 (Bf n (pM n f) (λi=>isW (f i)) 2) n 0)) (.br (isN (A0 (Bf n (pO n f) (λ_=>true) 12) n 0)) (.leaf ((.tup [iV 0,iV 0]),[])) (.leaf ((.tup [iV 45,nO (Bf n (pO n f) (λ_=>true) 12) n]),[]))) (.leaf ((.tup [iV 44,nO (Bf n (pM n f) (λi=>isW (f i)) 2) n]),[]))))) (.leaf ((.tup [iV 41,nO (Hg n f) n]),[]))) (.br (ieq (Hm a0 (f (tO (DN a0 f) n))) 0) (.leaf ((.tup [iV 5,nO (DN a0 f) n]),[])) (.leaf ((.tup [iV 30,nO (DN a0 f) n]),[])))))
theorem Ah3 (a0:Int) (n:Nat) (f:Nat->E6):(C52 a0 n f).sem=some (.tup [iV (Lc a0 n f).1,iV (Lc a0 n f).2],[]):=by
 unfold C52 Lc Io U4 RF crR nO tO;cases ilt (ofNat n) 2 with
 | true=>rfl
 | false =>
  cases ilt 16 (ofNat n) with
  | true=>rfl
  | false =>
   cases A0 (DN a0 f) n 0 with
   | some t =>show sel (ieq (Hm a0 (f t)) 0) _ _=_;cases e:ieq (Hm a0 (f t)) 0 <;> simp only [e] <;> rfl
   | none =>
    cases A0 (Hg n f) n 0 with
    | some t=>rfl
    | none =>
     show sel (ilt (Ip n f) 2) _ _=some (V.tup [iV (match ilt (Ip n f) 2,ilt (Jf n f) 2 with
      | true,_=>((42:Int),(0:Int))
      | false,true=>(43,0)
      | false,false=>_).1,iV (match ilt (Ip n f) 2,ilt (Jf n f) 2 with
      | true,_=>((42:Int),(0:Int))
      | false,true=>(43,0)
      | false,false=>_).2],[])
     cases ilt (Ip n f) 2 with
     | true=>rfl
     | false =>
      cases ilt (Jf n f) 2 with
      | true=>rfl
      | false =>
       cases A0 (Bf n (Bu (λk=>BI (f k)) n) (λi=>isW (f i)) 2) n 0 with
       | some t=>rfl
       | none=>cases A0 (Bf n (Bu (λk=>BY (f k)) n) (λ_=>true) 12) n 0 <;> rfl
def Ai6 (a:Int) (C:A3):A3:=.br (ieq a 1) C (.br (ieq a 2) C (.leaf (.tup [iV 1,iV 0],[])))
theorem SY {a:Int} {n:Nat} {f:Nat->E6} {C:A3} (h:C.sem=some (.tup [iV (Lc a n f).1,iV (Lc a n f).2],[])):(Ai6 a C).sem=some (.tup [iV (Gr a n f).1,iV (Gr a n f).2],[]):=by
 unfold Ai6 Gr;cases ieq a 1 with
 | true=>exact h
 | false =>
  cases ieq a 2 with
  | true=>exact h
  | false=>rfl
theorem p49:As Tryz.prog Gl 22 U3:=by
 refine Ah A2 mixed Tryz.func22 (by kernel_rfl) (by kernel_rfl) λvs v h' h=>?_;unfold U3 at h;split at h
 ·rename_i a0 u
  obtain ⟨n,f,ha,h1⟩:=Bd h;obtain ⟨hF,hq⟩:=Ab h1;have:=Aa hq;simp only [Prod.mk.injEq] at this;obtain ⟨rfl,rfl⟩:=this;have hn:n <= 4611686018427387904:=Ee (HF hF);have hx:=Be AfJ PV (G:=Gl);have w:=λ(hK:Bm a0=true)=>show DK (λa=>a) (C52 a0 n f) _ from .c (λh1=>.r 3 h1 <| .k eT <| .l) λh1=>.r 3 h1 <| .c (λh2=>.k h2 <| .l) λh2=>.k h2 <| .c (λh3=>.a (r52 (Cp PV) a0 n f hn (j:=λ_=>.und) (ApM hK hn h3)) <| .c (λh4=>.a (AhP (Cp PV) a0 n f hn (j:=λ_=>.und) (ApL (a:=Aon n f) hn h4)) <| .c (λh5=>.k h5 <| .l) λh5=>.k h5 <| .c (λh6=>.k h6 <| .l) λh6=>.k h6 <| .k (eL n) <| .k hF <| .k (eL n) <| .k hF <| .c (λh7=>.a (AhO (Cp PV) a0 n f hn (j:=λ_=>.und) (ApJ (a:=Ahr n f) h7)) <| .c (λh8=>.a (AhN (Cp PV) a0 n f hn (j:=λ_=>.und) (ApH (a:=Ahr n f) h8)) <| .l) λh8=>.a (AhN (Cp PV) a0 n f hn (j:=λ_=>.und) (ApG (a:=Ahr n f) h8)) <| .l) λh7=>.a (AhO (Cp PV) a0 n f hn (j:=λ_=>.und) (ApI (a:=Ahr n f) h7)) <| .l) λh4=>.a (AhP (Cp PV) a0 n f hn (j:=λ_=>.und) (ApK (a:=Aon n f) hn h4)) <| .l) λh3=>.c (λg=>.a (r52 (Cp PV) a0 n f hn (j:=λ_=>.und) (ApO hK hn h3 g)) .l) λg=>.a (r52 (Cp PV) a0 n f hn (j:=λ_=>.und) (ApN hK hn h3 g)) .l
  exact ⟨_,cxA Gl Aad PV,_,Alc ha,rfl,hx.1,hx.2,DK.of (SY (Ah3 a0 n f)) (.c (λh1=>.k (eN h1) <| .k (eN h1) <| .k (eN h1) <| .k eF (w (kn1 h1))) λh1=>.k (eN h1) <| .k (eN h1) <| .k (eN h1) <| .c (λh2=>.k (eN h2) (w (kn2 h2))) λh2=>.k (eN h2) .l) (by kernel_rfl),Au.refl _⟩
 ·cases h
noncomputable def AlW:AG:=(85,AkQ)::(86,Yj)::(91,Xx)::(90,Yi)::[]
theorem AfK:Al Tryz.prog Gl AlW:=.cons p86 <| .cons p87 <| .cons p92 <| .cons p91 .nil
def AnQ (a:Int) (n:Nat) (f:Nat->E6):Int:=(Io a n f).1
def ApR (a:Int) (n:Nat) (f:Nat->E6):Int:=(Io a n f).2
def crI (n:Nat) (l:Nat->Int) (c:Nat->Bool) (q:Int):Int:=(crR n l c q).1
def crB (n:Nat) (l:Nat->Int) (c:Nat->Bool) (q:Int):Bool:=(crR n l c q).2
theorem Vz (p:Nat->Bool) (n:Nat) (hn:n <= 4611686018427387904):okP n (Bu p n)=true:=AS.2 λi hi=>by
 unfold Bu;cases decide (i<n) with
 | false=>rfl
 | true =>
  cases decide (AA p i=AA p n) with
  | true=>rfl
  | false =>have:=DU p i;exact Uo (by omega)
def C84 (a0:Int) (n:Nat) (f:Nat->E6):A3:=.br (ilt (ofNat n) 2) (.leaf ((.tup [iV 40,iV 0]),[])) (.br (ilt 16 (ofNat n)) (.leaf ((.tup [iV 40,iV 0]),[])) (.br (ieq (AnQ a0 n f) 0) (.br (ilt (Ip n f) 2) (.leaf ((.tup [iV 42,iV 0]),[])) (.br (ilt (Jf n f) 2) (.leaf ((.tup [iV 43,iV 0]),[])) (.br (crB n (Bu (λk=>BI (f k)) n) (λi=>isW (f i)) 2) (.leaf ((.tup [iV 44,iV (crI n (Bu (λk=>BI (f k)) n) (λi=>isW (f i)) 2)]),[])) (.br (crB n (Bu (λk=>BY (f k)) n) (λ_=>true) 12) (.leaf ((.tup [iV 45,iV (crI n (Bu (λk=>BY (f k)) n) (λ_=>true) 12)]),[])) (.leaf ((.tup [iV 0,iV 0]),[])))))) (.leaf ((.tup [iV (AnQ a0 n f),iV (ApR a0 n f)]),[]))))
theorem Ah2 (a0:Int) (n:Nat) (f:Nat->E6):(C84 a0 n f).sem=some (.tup [iV (Lc a0 n f).1,iV (Lc a0 n f).2],[]):=by
 unfold C84 Lc U4 RF;cases ilt (ofNat n) 2 with
 | true=>rfl
 | false =>
  cases ilt 16 (ofNat n) with
  | true=>rfl
  | false =>
   show sel (ieq (Io a0 n f).1 0) _ _=_;cases e:ieq (Io a0 n f).1 0 with
   | false=>rfl
   | true =>
    show sel (ilt (Ip n f) 2) _ _=some (V.tup [iV (match ilt (Ip n f) 2,ilt (Jf n f) 2 with
     | true,_=>((42:Int),(0:Int))
     | false,true=>(43,0)
     | false,false=>_).1,iV (match ilt (Ip n f) 2,ilt (Jf n f) 2 with
     | true,_=>((42:Int),(0:Int))
     | false,true=>(43,0)
     | false,false=>_).2],[])
    cases ilt (Ip n f) 2 with
    | true=>rfl
    | false =>
     cases ilt (Jf n f) 2 with
     | true=>rfl
     | false =>
      show sel (crR n (Bu (λk=>BI (f k)) n) (λi=>isW (f i)) 2).2 (some (V.tup [iV 44,iV (crR n (Bu (λk=>BI (f k)) n) (λi=>isW (f i)) 2).1],[])) (sel (crR n (Bu (λk=>BY (f k)) n) (λ_=>true) 12).2 (some (V.tup [iV 45,iV (crR n (Bu (λk=>BY (f k)) n) (λ_=>true) 12).1],[])) _)=_;cases crR n (Bu (λk=>BI (f k)) n) (λi=>isW (f i)) 2 with
      | mk x b =>
       cases b with
       | true=>rfl
       | false =>
        cases crR n (Bu (λk=>BY (f k)) n) (λ_=>true) 12 with
        | mk x b=>cases b <;> rfl
theorem p48:As Tryz.prog Gl 61 U3:=by
 refine Ah A2 mixed Tryz.func61 (by kernel_rfl) (by kernel_rfl) λvs v h' h=>?_;unfold U3 at h;split at h
 ·rename_i a0 u
  obtain ⟨n,f,ha,h1⟩:=Bd h;obtain ⟨hF,hq⟩:=Ab h1;have:=Aa hq;simp only [Prod.mk.injEq] at this;obtain ⟨rfl,rfl⟩:=this;have hn:n <= 4611686018427387904:=Ee (HF hF);have hk:Fy 8 (ofNat n) (ofNat n)=true:=Ap8 hF;have hx:=Bi AfK [] (G:=Gl);have w:DK (λa=>a) (C84 a0 n f) _:=.c (λh1=>.r 4 h1 <| .k eT <| .l) λh1=>.r 4 h1 <| .c (λh2=>.k h2 <| .l) λh2=>.k h2 <| .k (eL n) <| .k hF <| .c (λh3=>.k (eN h3) <| .k (eL n) <| .k (decide_eq_true hn) <| .c (λh4=>.k h4 <| .l) λh4=>.k h4 <| .k (eL n) <| .k (decide_eq_true hn) <| .c (λh5=>.k h5 <| .l) λh5=>.k h5 <| .k (eL n) <| .k hk <| .r 2 (eL n) <| .k (eJ n) <| .k (decide_eq_true hn) <| .k (Vz (λk=>BI (f k)) n hn) <| .c (λh6=>.k h6 <| .l) λh6=>.k h6 <| .k (eL n) <| .k hk <| .k (eL n) <| .k (decide_eq_true hn) <| .k (Vz (λk=>BY (f k)) n hn) <| .c (λh7=>.k h7 <| .l) λh7=>.k h7 <| .l) λh3=>.k (eN h3) <| .l
  exact ⟨_,B7 Gl AlW [],_,Alc ha,rfl,hx.1,hx.2,DK.of (SY (Ah2 a0 n f)) (.c (λh1=>.k (eN h1) <| .k (eN h1) <| .k (eN h1) <| .k eF w) λh1=>.k (eN h1) <| .k (eN h1) <| .k (eN h1) <| .c (λh2=>.k (eN h2) w) λh2=>.k (eN h2) .l) (by kernel_rfl),Au.refl _⟩
 ·cases h
end Go.Proofs.YtkbgidbledjejaaGreat.Ed
namespace Go.Proofs.YtkbgidbledjejaaGreat.En
open Go.Sy Go Go.Proofs.YtkbgidbledjejaaGreat.Ed
set_option maxRecDepth 100000
def Anu:Lp:=⟨bmK 26 0 [0,1,4,12,13],0,bmK 26 0 [4],0,4611686018427387905⟩
def S62 (n:Nat) (f g:Nat->E6) (c:Int) (a:Unit) (j:Nat->V):St:=⟨jsV 26 0 j [(0,.sl 6 n (λi=>eV (f i))),(1,.sl 6 n (λi=>eV (g i))),(4,bV false),(12,nV n),(13,iV c)],[]⟩
noncomputable def B62 (L:LT):St->T (Ex×St):=λst=>A6 tab ⟨A5 tbZ,L,Gl⟩ (Aw Tryz.f62 0) 0 st
def Ab3 (n:Nat) (f g:Nat->E6) (i:Nat) (a:Unit):Ex×St:=(.rt,⟨jsV 26 0 Ac [(4,bV false)],[]⟩)
def g62 (n:Nat) (f g:Nat->E6) (i:Nat) (a:Unit):T ((Unit) ⊕ (Ex×St)):=.br (eqE (f i) (g i)) (.leaf (.inl ())) (.leaf (.inr (Ab3 n f g i a)))
def AnH (n:Nat) (f g:Nat->E6) (a:Unit):Ex×St:=(.ex 0,⟨jsV 26 0 Ac [(4,bV false)],[]⟩)
theorem r62 (L:LT) (n:Nat) (f g:Nat->E6)  (hn:n <= 4611686018427387904) {e:Ex×St} {a:Unit} {j:Nat->V} (h:Ds (g62 n f g) (AnH n f g) n 0 a=some e):(Ax (B62 L) Anu 4611686018427387905 (S62 n f g 0 a j)).sem=some (exR e) :=
 De FF hn (λi a j r hi h=>DK.ok (L:=goR (S62 n f g) exR i) (.k (ofNat_lt hi) <| .r 2 (Af hi) <| .c (λh1=>.k (eN h1) <| .l) λh1=>.k (eN h1) <| .l) (by kernel_rfl) h) (λa j=>DK.ok (C:=.leaf (AnH n f g a)) (L:=exR) (.k (A1 (Nat.le_refl n)) .l) (by kernel_rfl) rfl) (Nat.zero_add _).symm (Nat.lt_succ_of_le hn) h
def Adr:List (Nat×Lp×List (Nat×(Nat->V))):=[(0,Anu,[])]
theorem XU (f g:Nat->E6) (n:Nat):FG f g n 0=Dl n λi=>eqE (f i) (g i):=by
 rw [Bool.eq_iff_iff,IR,AS];exact ⟨λh i hi=>(Dw _ _).2 (h i (Nat.zero_le _) (by omega)),λh i _ hi=>(Dw _ _).1 (h i (by omega))⟩
theorem p62:As Tryz.prog Gl 62 Jq:=by
 refine Ah A2 mixed Tryz.func62 (by kernel_rfl) (by kernel_rfl) λvs v h' h=>?_;obtain ⟨n,f,m,g,ha,h⟩:=Kr h;obtain ⟨hn,h⟩:=Ab h;cases Aa h;have hn:n <= 4611686018427387904:=of_decide_eq_true hn;have hx:=Be Iy Adr (G:=Gl);refine ⟨[Ap n f,Ap m g],cxA Gl tbZ Adr,_,ha,rfl,hx.1,hx.2,?_,Au.refl _⟩;unfold FW;cases hm:ieq (Int.ofNat n) (Int.ofNat m) with
 | false=>exact DW.ok (.k (eN hm) <| .l) (by kernel_rfl)
 | true =>
  obtain rfl:n=m:=Int.ofNat.inj (Ct hm);have go:∀ i,i<n->(g62 n f g i ()).sem=sel (eqE (f i) (g i)) (some (.inl ())) (some (.inr (Ab3 n f g i ()))):=λi _=>rfl;show (AL (Ar tab (cxA Gl tbZ Adr) Tryz.f62 [Ap n f,Ap n g] [])).sem=some (bV (FG f g n 0),[]);rw [XU];cases h1:Dl n λi=>eqE (f i) (g i) with
  | true=>exact DW.ok (.k (eN hm) <| .a (r62 (Cp Adr) n f g hn (j:=λ_=>.und) (Tc go h1)) .l) (by kernel_rfl)
  | false=>exact DW.ok (.k (eN hm) <| .a (r62 (Cp Adr) n f g hn (j:=λ_=>.und) (AeY (x:=Ab3 n f g 0 ()) go h1)) .l) (by kernel_rfl)
def isB (a:Int) (k:Nat) (f:Nat->E6):Bool:=sel (ieq (Gr a k f).1 0) (sel (BF k f) (FW k (M3 k f) k f) false) false
def isT:List V->A3
 | [w,c]=>apS w λa _ _ _ _ _=>apL c λk f=>.br (Cl k) (.leaf (bV (isB a k f),[])) .fail
 | _=>.fail
noncomputable def AlS:AG:=(61,U3)::(59,QR)::(62,Jq)::[]
theorem Af9:Al Tryz.prog Gl AlS:=.cons p48 <| .cons p65 <| .cons p62 <| .nil
theorem p75:As Tryz.prog Gl 75 isT:=by
 refine Ah A2 mixed Tryz.func75 (by kernel_rfl) (by kernel_rfl) λvs v0 h' h=>?_;unfold isT at h;split at h
 rotate_left
 ·cases h
 rename_i w c;obtain ⟨a,n,m,v,L,x,ha,h⟩:=JF h;obtain ⟨k,f,hc,h⟩:=Bd h;obtain ⟨hk,h⟩:=Ab h;cases Aa h;have hx:=Be Af9 [] (G:=Gl);refine ⟨[.pp (.agg [iV a,iV n,Ap m v,CH L x]),Ap k f],cxA Gl AlS [],_,λS w cs hq=>by
  obtain ⟨c,l,rfl,q1,c2,l2,rfl,q2,q3⟩:=hq;exact ⟨c,_,rfl,ha S w c q1,c2,_,rfl,hc S w c2 q2,q3⟩,rfl,hx.1,hx.2,?_,Au.refl _⟩
 unfold isB;cases h1:ieq (Gr a k f).1 0 with
 | false=>exact DW.ok (.k (eL k) <| .k hk <| .k (eN h1) <| .l) (by kernel_rfl)
 | true =>
  cases h2:BF k f with
  | true=>exact DW.ok (.k (eL k) <| .k hk <| .k (eN h1) <| .k (eL k) <| .k hk <| .k h2 <| .r 3 (eI 0) <| .r 2 (eL k) <| .k (decide_eq_true (Ee (HF hk))) <| .k (eI 0) <| .l) (by kernel_rfl)
  | false=>exact DW.ok (.k (eL k) <| .k hk <| .k (eN h1) <| .k (eL k) <| .k hk <| .k h2 <| .r 4 (show ieq 30 0=false from rfl) <| .l) (by kernel_rfl)
end Go.Proofs.YtkbgidbledjejaaGreat.En
