/-
  Check, the program's and the document's: one answer. No conditions.
-/
import Derived.Test.YtkbgidbledjejaaGreatCyR
import Derived.Test.YtkbgidbledjejaaGreatEdY
import Derived.Test.YtkbgidbledjejaaGreatEnF
namespace Go.Proofs.YtkbgidbledjejaaGreat.Ed
open Go.Sy
open Int (ofNat)
noncomputable def Aaa:AH:=(45,Co λe=>iV (AB e))::(46,ap2 gI toE λa e=>out (RE a e))::(47,Co λe=>bV (BX e))::(48,Co λe=>bV (BM e))::(49,YP)::(50,YO)::(51,Ae9)::[]
theorem AfI:Ao Tryz.prog Gl Aaa:=.cons p29 <| .cons p33 <| .cons p60 <| .cons p61 <| .cons p94 <| .cons p95 <| .cons p96 .nil
def Jg (n:Nat) (f:Nat->E6):Int:=ofNat (AD (λk=>BX (f k)) n)
def Kv (n:Nat) (f:Nat->E6):Int:=ofNat (AD (λk=>BM (f k)) n)
def Wy (n:Nat) (f:Nat->E6):Int×Int :=
 match crR n (Bu (λk=>BM (f k)) n) (λi=>isW (f i)) 2 with
 | (i,true)=>(44,i)
 | (_,false)=>match crR n (Bu (λk=>BX (f k)) n) (λ_=>true) 12 with
   | (i,true)=>(45,i)
   | (_,false)=>(0,0)
def Yo (n:Nat) (f:Nat->E6):Int×Int :=
 match ilt (Jg n f) 2,ilt (Kv n f) 2 with
 | true,_=>(42,0)
 | false,true=>(43,0)
 | false,false=>Wy n f
def My (a:Int) (n:Nat) (f:Nat->E6):Int×Int :=
 match ilt (ofNat n) 2,ilt 16 (ofNat n) with
 | true,_=>(40,0)
 | false,true=>(40,0)
 | false,false=>match Je a n f,ieq (Je a n f).1 0 with
  | r,false=>r
  | _,true=>Yo n f
def Ft (a:Int) (n:Nat) (f:Nat->E6):Int×Int :=
 match ieq a 1,ieq a 2 with
 | false,false=>(1,0)
 | _,_=>My a n f
def Wz:List V->A2
 | [.val (.int .i64 a),v]=>apL v λn f=>.br (BG n) (out (.tup [iV (Ft a n f).1,iV (Ft a n f).2])) .fail
 | _=>.fail
theorem Ahf {a:Int} {n:Nat} {f:Nat->E6} (h:ieq a 1=true ∨ ieq a 2=true):Ft a n f=My a n f:=by
 unfold Ft;rcases h with h | h
 ·rw [h]
 ·rw [h]
  cases ieq a 1 <;> rfl
theorem Ap4 {n:Nat} (h:BG n=true):F2 8 (ofNat n) (ofNat n)=true:=by
 have:=KW h;simp only [F2,Bool.and_eq_true,decide_eq_true_eq,Int.ofNat_eq_natCast];omega
theorem Akg {i n:Nat} (h:i<n) (hn:n <= 4611686018427387904):Av (ile 0 (Aw (wr .i64 (Aj (ofNat i) 1)) (ofNat n))) (ilt (Aw (wr .i64 (Aj (ofNat i) 1)) (ofNat n)) (ofNat n))=true:=by
 rw [PU h hn];exact Af (Nat.mod_lt _ (by omega))
def Anv:Lp:=⟨bmK 133 0 [0,1,4,5,6,7,8,9],0,bmK 133 0 [1,4,5,6,7,8],0,4611686018427387905⟩
def S52 (a0:Int) (n:Nat) (f:Nat->E6) (c:Int) (a:Int×Int) (j:Nat->V):St:=⟨jsV 133 0 j [(0,iV a0),(1,.sl 6 n (λi=>eV (f i))),(4,iV 0),(5,iV 0),(6,nV n),(7,iV a.1),(8,iV a.2),(9,iV c)],[]⟩
noncomputable def B52 (L:LT):St->T (Ex×St):=λst=>A8 tab ⟨A6 Aaa,L,Gl⟩ (A0 Tryz.f22 0) 0 st
def Ab2 (a0:Int) (n:Nat) (f:Nat->E6) (i:Nat) (a:Int×Int):Ex×St:=(.rt,⟨jsV 133 0 Ac [(1,.sl 6 n (λi=>eV (f i))),(4,iV 5),(5,nV i),(6,nV n),(7,iV a.1),(8,iV a.2)],[]⟩)
def Ab1 (a0:Int) (n:Nat) (f:Nat->E6) (i:Nat) (a:Int×Int):Ex×St:=(.rt,⟨jsV 133 0 Ac [(1,.sl 6 n (λi=>eV (f i))),(4,iV 30),(5,nV i),(6,nV n),(7,iV a.1),(8,iV a.2)],[]⟩)
def g52 (a0:Int) (n:Nat) (f:Nat->E6) (i:Nat) (a:Int×Int):T ((Int×Int) ⊕ (Ex×St)):=.br (ieq (AB (f i)) 0) (.br (ID a0 (f i)) (.br (BX (f i)) (.br (BM (f i)) (.leaf (.inl ((wr .i64 (Aj a.1 1)),wr .i64 (Aj a.2 1)))) (.leaf (.inl ((wr .i64 (Aj a.1 1)),a.2)))) (.br (BM (f i)) (.leaf (.inl (a.1,wr .i64 (Aj a.2 1)))) (.leaf (.inl (a.1,a.2))))) (.leaf (.inr (Ab2 a0 n f i a)))) (.leaf (.inr (Ab1 a0 n f i a)))
def XK (a0:Int) (n:Nat) (f:Nat->E6) (a:Int×Int):Ex×St:=(.ex 0,⟨jsV 133 0 Ac [(1,.sl 6 n (λi=>eV (f i))),(4,iV 0),(5,iV 0),(6,nV n),(7,iV a.1),(8,iV a.2)],[]⟩)
theorem r52 (L:LT) (a0:Int) (n:Nat) (f:Nat->E6)  (hn:n <= 4611686018427387904) {e:Ex×St} {a:Int×Int} {j:Nat->V} (h:DO (g52 a0 n f) (XK a0 n f) n 0 a=some e):(Ax (B52 L) Anv 4611686018427387905 (S52 a0 n f 0 a j)).sem=some (exR e) :=
 Ef Ha hn (λi a j r hi h=>DK.ok (L:=goR (S52 a0 n f) exR i) (.k (ofNat_lt hi) <| .k (Af hi) <| .c (λh1=>.k (eN h1) <| .k (Af hi) <| .c (λh2=>.k (eN h2) <| .k (Af hi) <| .c (λh3=>.k h3 <| .k (Af hi) <| .c (λh4=>.k h4 <| .l) λh4=>.k h4 <| .l) λh3=>.k h3 <| .k (Af hi) <| .c (λh5=>.k h5 <| .l) λh5=>.k h5 <| .l) λh2=>.k (eN h2) <| .l) λh1=>.k (eN h1) <| .l) (by kernel_rfl) h) (λa j=>DK.ok (C:=.leaf (XK a0 n f a)) (L:=exR) (.k (A4 (Nat.le_refl n)) .l) (by kernel_rfl) rfl) (Nat.zero_add _).symm (Nat.lt_succ_of_le hn) h
def Adz:Lp:=⟨bmK 133 0 [1,4,5,6,7,8,12],0,bmK 133 0 [1,4,5,6,7,8],0,4611686018427387905⟩
def Ai9 (a0:Int) (n:Nat) (f:Nat->E6) (c:Int) (a:Int×Int) (j:Nat->V):St:=⟨jsV 133 0 j [(1,.sl 6 n (λi=>eV (f i))),(4,iV 0),(5,iV 0),(6,nV n),(7,iV a.1),(8,iV a.2),(12,iV c)],[]⟩
noncomputable def Ao1 (L:LT):St->T (Ex×St):=λst=>A8 tab ⟨A6 Aaa,L,Gl⟩ (A0 Tryz.f22 2) 2 st
def Li (a0:Int) (n:Nat) (f:Nat->E6) (i:Nat) (a:Int×Int):Ex×St:=(.rt,⟨jsV 133 0 Ac [(1,.sl 6 n (λi=>eV (f i))),(4,iV 41),(5,nV i),(6,nV n),(7,iV a.1),(8,iV a.2)],[]⟩)
def VZ (a0:Int) (n:Nat) (f:Nat->E6) (i:Nat) (a:Int×Int):T ((Int×Int) ⊕ (Ex×St)):=.br (ieq (f i).dst (f (toN (Aw (wr .i64 (Aj (ofNat i) 1)) (ofNat n)))).src) (.leaf (.inl (a.1,a.2))) (.leaf (.inr (Li a0 n f i a)))
def Q5 (a0:Int) (n:Nat) (f:Nat->E6) (a:Int×Int):Ex×St:=(.ex 2,⟨jsV 133 0 Ac [(1,.sl 6 n (λi=>eV (f i))),(4,iV 0),(5,iV 0),(6,nV n),(7,iV a.1),(8,iV a.2)],[]⟩)
theorem AhT (L:LT) (a0:Int) (n:Nat) (f:Nat->E6)  (hn:n <= 4611686018427387904) {e:Ex×St} {a:Int×Int} {j:Nat->V} (h:DO (VZ a0 n f) (Q5 a0 n f) n 0 a=some e):(Ax (Ao1 L) Adz 4611686018427387905 (Ai9 a0 n f 0 a j)).sem=some (exR e) :=
 Ef Ha hn (λi a j r hi h=>DK.ok (L:=goR (Ai9 a0 n f) exR i) (.k (ofNat_lt hi) <| .k (Af hi) <| .k (Ap1 hi) <| .k (Akg hi hn) <| .c (λh1=>.k (eN h1) <| .l) λh1=>.k (eN h1) <| .l) (by kernel_rfl) h) (λa j=>DK.ok (C:=.leaf (Q5 a0 n f a)) (L:=exR) (.k (A4 (Nat.le_refl n)) .l) (by kernel_rfl) rfl) (Nat.zero_add _).symm (Nat.lt_succ_of_le hn) h
def Ady:Lp:=⟨bmK 133 0 [1,4,5,6,13,14,15],2,bmK 133 0 [1,4,5,6,13],2,4611686018427387905⟩
def Ai8 (a0:Int) (n:Nat) (f:Nat->E6) (c:Int) (a:(Nat->Int)×(Nat->Int)) (j:Nat->V):St:=⟨jsV 133 0 j [(1,.sl 6 n (λi=>eV (f i))),(4,iV 0),(5,iV 0),(6,nV n),(13,.ref 0),(14,.ref 1),(15,iV c)],[.row 3 1 n (λk=>iV (a.1 k)),.row 3 1 n (λk=>iV (a.2 k))]⟩
noncomputable def Ao0 (L:LT):St->T (Ex×St):=λst=>A8 tab ⟨A6 Aaa,L,Gl⟩ (A0 Tryz.f22 4) 4 st
def Lh (a0:Int) (n:Nat) (f:Nat->E6) (i:Nat) (a:(Nat->Int)×(Nat->Int)):Ex×St:=(.rt,⟨jsV 133 0 Ac [(1,.sl 6 n (λi=>eV (f i))),(4,iV 44),(5,nV i),(6,nV n),(13,.ref 0)],[.row 3 1 n (λk=>iV (a.1 k)),.row 3 1 n (λk=>iV (a.2 k))]⟩)
def Zs (a0:Int) (n:Nat) (f:Nat->E6) (i:Nat) (a:(Nat->Int)×(Nat->Int)):T (((Nat->Int)×(Nat->Int)) ⊕ (Ex×St)):=.br (ieq (f i).src 2) (.br (ilt 2 (Yk n a.2 (λi=>bor (AL true) (isW (f i))) (a.2 i))) (.leaf (.inr (Lh a0 n f i a))) (.leaf (.inl (a.1,a.2)))) (.leaf (.inl (a.1,a.2)))
def Q4 (a0:Int) (n:Nat) (f:Nat->E6) (a:(Nat->Int)×(Nat->Int)):Ex×St:=(.ex 4,⟨jsV 133 0 Ac [(1,.sl 6 n (λi=>eV (f i))),(4,iV 0),(5,iV 0),(6,nV n),(13,.ref 0)],[.row 3 1 n (λk=>iV (a.1 k)),.row 3 1 n (λk=>iV (a.2 k))]⟩)
theorem AhS (L:LT) (a0:Int) (n:Nat) (f:Nat->E6)  (hn:n <= 4611686018427387904) {e:Ex×St} {a:(Nat->Int)×(Nat->Int)} {j:Nat->V} (h:DO (Zs a0 n f) (Q4 a0 n f) n 0 a=some e):(Ax (Ao0 L) Ady 4611686018427387905 (Ai8 a0 n f 0 a j)).sem=some (exR e) :=
 Ef Ha hn (λi a j r hi h=>DK.ok (L:=goR (Ai8 a0 n f) exR i) (.k (ofNat_lt hi) <| .k (Af hi) <| .c (λh1=>.r 5 h1 <| .k (Af hi) <| .k h1 <| .k (decide_eq_true hi) <| .k h1 <| .r 2 (eL n) <| .k (eJ n) <| .k (decide_eq_true hn) <| .r 2 h1 <| .c (λh2=>.k h2 <| .l) λh2=>.k h2 <| .l) λh1=>.r 9 h1 <| .k eF <| .l) (by kernel_rfl) h) (λa j=>DK.ok (C:=.leaf (Q4 a0 n f a)) (L:=exR) (.k (A4 (Nat.le_refl n)) .l) (by kernel_rfl) rfl) (Nat.zero_add _).symm (Nat.lt_succ_of_le hn) h
def Adx:Lp:=⟨bmK 133 0 [1,4,5,6,13,16],2,bmK 133 0 [4,5],0,4611686018427387905⟩
def Ai7 (a0:Int) (n:Nat) (f:Nat->E6) (c:Int) (a:(Nat->Int)×(Nat->Int)) (j:Nat->V):St:=⟨jsV 133 0 j [(1,.sl 6 n (λi=>eV (f i))),(4,iV 0),(5,iV 0),(6,nV n),(13,.ref 0),(16,iV c)],[.row 3 1 n (λk=>iV (a.1 k)),.row 3 1 n (λk=>iV (a.2 k))]⟩
noncomputable def Aoz (L:LT):St->T (Ex×St):=λst=>A8 tab ⟨A6 Aaa,L,Gl⟩ (A0 Tryz.f22 6) 6 st
def Lg (a0:Int) (n:Nat) (f:Nat->E6) (i:Nat) (a:(Nat->Int)×(Nat->Int)):Ex×St:=(.rt,⟨jsV 133 0 Ac [(4,iV 45),(5,nV i)],[]⟩)
def Zr (a0:Int) (n:Nat) (f:Nat->E6) (i:Nat) (a:(Nat->Int)×(Nat->Int)):T (((Nat->Int)×(Nat->Int)) ⊕ (Ex×St)):=.br (ilt 12 (Yk n a.1 (λi=>bor (AL false) (isW (f i))) (a.1 i))) (.leaf (.inr (Lg a0 n f i a))) (.leaf (.inl (a.1,a.2)))
def Q3 (a0:Int) (n:Nat) (f:Nat->E6) (a:(Nat->Int)×(Nat->Int)):Ex×St:=(.ex 6,⟨jsV 133 0 Ac [(4,iV 0),(5,iV 0)],[]⟩)
theorem AhR (L:LT) (a0:Int) (n:Nat) (f:Nat->E6)  (hn:n <= 4611686018427387904) {e:Ex×St} {a:(Nat->Int)×(Nat->Int)} {j:Nat->V} (h:DO (Zr a0 n f) (Q3 a0 n f) n 0 a=some e):(Ax (Aoz L) Adx 4611686018427387905 (Ai7 a0 n f 0 a j)).sem=some (exR e) :=
 Ef Ha hn (λi a j r hi h=>DK.ok (L:=goR (Ai7 a0 n f) exR i) (.k (ofNat_lt hi) <| .k (Af hi) <| .k (decide_eq_true hi) <| .r 2 (eL n) <| .k (eJ n) <| .k (decide_eq_true hn) <| .c (λh1=>.k h1 <| .l) λh1=>.k h1 <| .l) (by kernel_rfl) h) (λa j=>DK.ok (C:=.leaf (Q3 a0 n f a)) (L:=exR) (.k (A4 (Nat.le_refl n)) .l) (by kernel_rfl) rfl) (Nat.zero_add _).symm (Nat.lt_succ_of_le hn) h
def PY:List (Nat×Lp×List (Nat×(Nat->V))):=[(0,Anv,[]),(2,Adz,[]),(4,Ady,[]),(6,Adx,[])]
abbrev pO (n:Nat) (f:Nat->E6):Nat->Int:=Bu (λk=>BX (f k)) n
abbrev pM (n:Nat) (f:Nat->E6):Nat->Int:=Bu (λk=>BM (f k)) n
abbrev Aom (n:Nat) (f:Nat->E6):Int×Int:=(Jg n f,Kv n f)
abbrev Ahr (n:Nat) (f:Nat->E6):(Nat->Int)×(Nat->Int):=(pO n f,pM n f)
theorem XC {a:Int} {e:E6} (h:Bi a=true):Hj a e=AB e:=by unfold Hj; rw [h]; rfl
theorem kn1 {a:Int} (h:ieq a 1=true):Bi a=true:=by unfold Bi; rw [h]; rfl
theorem kn2 {a:Int} (h:ieq a 2=true):Bi a=true:=by unfold Bi; rw [h]; cases ieq a 1 <;> rfl
section
variable {a0:Int} {n:Nat} {f:Nat->E6}
def RO (f:Nat->E6) (i:Nat):Int×Int:=(ofNat (AD (λk=>BX (f k)) i),ofNat (AD (λk=>BM (f k)) i))
def AeO (a0:Int) (n:Nat) (f:Nat->E6) (i:Nat):Ex×St:=sel (ieq (Hj a0 (f i)) 0) (Ab2 a0 n f i (RO f i)) (Ab1 a0 n f i (RO f i))
theorem c52 (hK:Bi a0=true) (hn:n <= 4611686018427387904) {i:Nat} (hi:i<n) (h:DR a0 f i=false):(g52 a0 n f i (RO f i)).sem=some (.inl (RO f (i+1))):=by
 have h1:=EO (λk=>BX (f k)) i;have h2:=EO (λk=>BM (f k)) i;unfold DR at h;rw [XC hK] at h;have w1:=Tm (show AD (λk=>BX (f k)) i<n by omega) hn;have w2:=Tm (show AD (λk=>BM (f k)) i<n by omega) hn;show sel (ieq (AB (f i)) 0) _ _=_;cases e1:ieq (AB (f i)) 0 with
 | false=>rw [e1] at h; cases h
 | true =>
  show sel (ID a0 (f i)) _ _=_;cases e2:ID a0 (f i) with
  | false=>rw [e1,e2] at h; cases h
  | true =>
   show sel (BX (f i)) (sel (BM (f i)) (some _) (some _)) (sel (BM (f i)) (some _) (some _))=some (Sum.inl (ofNat (match BX (f i) with
    | true=>AD (λk=>BX (f k)) i+1
    | false=>AD (λk=>BX (f k)) i),ofNat (match BM (f i) with
    | true=>AD (λk=>BM (f k)) i+1
    | false=>AD (λk=>BM (f k)) i)))
   cases BX (f i) <;> cases BM (f i) <;> simp only [sel,RO,w1,w2] <;> rfl
theorem t52 (hK:Bi a0=true) {i:Nat} (h:DR a0 f i=true):(g52 a0 n f i (RO f i)).sem=some (.inr (AeO a0 n f i)):=by
 unfold DR at h;unfold AeO;rw [XC hK] at h ⊢;show sel (ieq (AB (f i)) 0) _ _=_;cases e1:ieq (AB (f i)) 0 with
 | false=>rfl
 | true =>
  show sel (ID a0 (f i)) _ _=_;cases e2:ID a0 (f i) with
  | false=>rfl
  | true=>rw [e1,e2] at h; cases h
theorem ApJ (hK:Bi a0=true) (hn:n <= 4611686018427387904) (h:isN (A1 (DR a0 f) n 0)=true):DO (g52 a0 n f) (XK a0 n f) n 0 (0,0)=some (XK a0 n f (Jg n f,Kv n f)):=IO (acc:=RO f) (λ_ hi=>c52 hK hn hi) (λ_ _=>t52 hK) h
theorem AnD (hK:Bi a0=true) (hn:n <= 4611686018427387904) (h:isN (A1 (DR a0 f) n 0)=false):DO (g52 a0 n f) (XK a0 n f) n 0 (0,0)=some (AeO a0 n f (tO (DR a0 f) n)):=IN (acc:=RO f) (λ_ hi=>c52 hK hn hi) (λ_ _=>t52 hK) h
theorem ApL (hK:Bi a0=true) (hn:n <= 4611686018427387904) (h:isN (A1 (DR a0 f) n 0)=false) (g:ieq (Hj a0 (f (tO (DR a0 f) n))) 0=true):DO (g52 a0 n f) (XK a0 n f) n 0 (0,0)=some (Ab2 a0 n f (tO (DR a0 f) n) (RO f (tO (DR a0 f) n))):=by rw [AnD hK hn h,AeO,g]; rfl
theorem ApK (hK:Bi a0=true) (hn:n <= 4611686018427387904) (h:isN (A1 (DR a0 f) n 0)=false) (g:ieq (Hj a0 (f (tO (DR a0 f) n))) 0=false):DO (g52 a0 n f) (XK a0 n f) n 0 (0,0)=some (Ab1 a0 n f (tO (DR a0 f) n) (RO f (tO (DR a0 f) n))):=by rw [AnD hK hn h,AeO,g]; rfl
theorem ZI (hn:n <= 4611686018427387904) {a:Int×Int} {i:Nat} (hi:i<n):(VZ a0 n f i a).sem=sel (Hk n f i) (some (.inr (Li a0 n f i a))) (some (.inl a)):=by
 unfold VZ Hk;rw [PU hi hn,show toN (ofNat ((i+1) % n))=(i+1) % n from rfl];cases ieq (f i).dst (f ((i+1) % n)).src <;> rfl
theorem ApI (hn:n <= 4611686018427387904) {a:Int×Int} (h:isN (A1 (Hk n f) n 0)=true):DO (VZ a0 n f) (Q5 a0 n f) n 0 a=some (Q5 a0 n f a):=IO (acc:=λ_=>a) (x:=λi=>Li a0 n f i a) (λi hi hq=>by rw [ZI hn hi,hq]; rfl) (λi hi hq=>by rw [ZI hn hi,hq]; rfl) h
theorem ApH (hn:n <= 4611686018427387904) {a:Int×Int} (h:isN (A1 (Hk n f) n 0)=false):DO (VZ a0 n f) (Q5 a0 n f) n 0 a=some (Li a0 n f (tO (Hk n f) n) a):=IN (acc:=λ_=>a) (x:=λi=>Li a0 n f i a) (λi hi hq=>by rw [ZI hn hi,hq]; rfl) (λi hi hq=>by rw [ZI hn hi,hq]; rfl) h
theorem ZH {a:(Nat->Int)×(Nat->Int)} {i:Nat}:(Zs a0 n f i a).sem=sel (Bo n a.2 (λi=>isW (f i)) 2 i) (some (.inr (Lh a0 n f i a))) (some (.inl a)):=by
 show sel (isW (f i)) _ _=sel (Av (isW (f i)) _) _ _;cases isW (f i) <;> rfl
theorem ApG {a:(Nat->Int)×(Nat->Int)} (h:isN (A1 (Bo n a.2 (λi=>isW (f i)) 2) n 0)=true):DO (Zs a0 n f) (Q4 a0 n f) n 0 a=some (Q4 a0 n f a):=IO (acc:=λ_=>a) (x:=λi=>Lh a0 n f i a) (λi _ hq=>by rw [ZH,hq]; rfl) (λi _ hq=>by rw [ZH,hq]; rfl) h
theorem ApF {a:(Nat->Int)×(Nat->Int)} (h:isN (A1 (Bo n a.2 (λi=>isW (f i)) 2) n 0)=false):DO (Zs a0 n f) (Q4 a0 n f) n 0 a=some (Lh a0 n f (tO (Bo n a.2 (λi=>isW (f i)) 2) n) a):=IN (acc:=λ_=>a) (x:=λi=>Lh a0 n f i a) (λi _ hq=>by rw [ZH,hq]; rfl) (λi _ hq=>by rw [ZH,hq]; rfl) h
theorem ZG {a:(Nat->Int)×(Nat->Int)} {i:Nat}:(Zr a0 n f i a).sem=sel (Bo n a.1 (λ_=>true) 12 i) (some (.inr (Lg a0 n f i a))) (some (.inl a)):=rfl
theorem ApE {a:(Nat->Int)×(Nat->Int)} (h:isN (A1 (Bo n a.1 (λ_=>true) 12) n 0)=true):DO (Zr a0 n f) (Q3 a0 n f) n 0 a=some (Q3 a0 n f a):=IO (acc:=λ_=>a) (x:=λi=>Lg a0 n f i a) (λi _ hq=>by rw [ZG,hq]; rfl) (λi _ hq=>by rw [ZG,hq]; rfl) h
theorem ApD {a:(Nat->Int)×(Nat->Int)} (h:isN (A1 (Bo n a.1 (λ_=>true) 12) n 0)=false):DO (Zr a0 n f) (Q3 a0 n f) n 0 a=some (Lg a0 n f (tO (Bo n a.1 (λ_=>true) 12) n) a):=IN (acc:=λ_=>a) (x:=λi=>Lg a0 n f i a) (λi _ hq=>by rw [ZG,hq]; rfl) (λi _ hq=>by rw [ZG,hq]; rfl) h
end
def C52 (a0:Int) (n:Nat) (f:Nat->E6):A2:=.br (ilt (ofNat n) 2) (.leaf ((.tup [iV 40,iV 0]),[])) (.br (ilt 16 (ofNat n)) (.leaf ((.tup [iV 40,iV 0]),[])) (.br (isN (A1 (DR a0 f) n 0)) (.br (isN (A1 (Hk n f) n 0)) (.br (ilt (Jg n f) 2) (.leaf ((.tup [iV 42,iV 0]),[])) (.br (ilt (Kv n f) 2) (.leaf ((.tup [iV 43,iV 0]),[])) (.br (isN (A1 (Bo n (pM n f) (λi=>isW (f i)) 2) n 0)) (.br (isN (A1 (Bo n (pO n f) (λ_=>true) 12) n 0)) (.leaf ((.tup [iV 0,iV 0]),[])) (.leaf ((.tup [iV 45,nO (Bo n (pO n f) (λ_=>true) 12) n]),[]))) (.leaf ((.tup [iV 44,nO (Bo n (pM n f) (λi=>isW (f i)) 2) n]),[]))))) (.leaf ((.tup [iV 41,nO (Hk n f) n]),[]))) (.br (ieq (Hj a0 (f (tO (DR a0 f) n))) 0) (.leaf ((.tup [iV 5,nO (DR a0 f) n]),[])) (.leaf ((.tup [iV 30,nO (DR a0 f) n]),[])))))
theorem Ah3 (a0:Int) (n:Nat) (f:Nat->E6):(C52 a0 n f).sem=some (.tup [iV (My a0 n f).1,iV (My a0 n f).2],[]):=by
 unfold C52 My Je Yo Wy crR nO tO;cases ilt (ofNat n) 2 with
 | true=>rfl
 | false =>
  cases ilt 16 (ofNat n) with
  | true=>rfl
  | false =>
   cases A1 (DR a0 f) n 0 with
   | some t =>show sel (ieq (Hj a0 (f t)) 0) _ _=_;cases e:ieq (Hj a0 (f t)) 0 <;> simp only [e] <;> rfl
   | none =>
    cases A1 (Hk n f) n 0 with
    | some t=>rfl
    | none =>
     show sel (ilt (Jg n f) 2) _ _=some (V.tup [iV (match ilt (Jg n f) 2,ilt (Kv n f) 2 with
      | true,_=>((42:Int),(0:Int))
      | false,true=>(43,0)
      | false,false=>_).1,iV (match ilt (Jg n f) 2,ilt (Kv n f) 2 with
      | true,_=>((42:Int),(0:Int))
      | false,true=>(43,0)
      | false,false=>_).2],[])
     cases ilt (Jg n f) 2 with
     | true=>rfl
     | false =>
      cases ilt (Kv n f) 2 with
      | true=>rfl
      | false =>
       cases A1 (Bo n (Bu (λk=>BM (f k)) n) (λi=>isW (f i)) 2) n 0 with
       | some t=>rfl
       | none=>cases A1 (Bo n (Bu (λk=>BX (f k)) n) (λ_=>true) 12) n 0 <;> rfl
def Ai5 (a:Int) (C:A2):A2:=.br (ieq a 1) C (.br (ieq a 2) C (.leaf (.tup [iV 1,iV 0],[])))
theorem Te {a:Int} {n:Nat} {f:Nat->E6} {C:A2} (h:C.sem=some (.tup [iV (My a n f).1,iV (My a n f).2],[])):(Ai5 a C).sem=some (.tup [iV (Ft a n f).1,iV (Ft a n f).2],[]):=by
 unfold Ai5 Ft;cases ieq a 1 with
 | true=>exact h
 | false =>
  cases ieq a 2 with
  | true=>exact h
  | false=>rfl
theorem p49:As Tryz.prog Gl 22 Wz:=by
 refine Ah Az mixed Tryz.func22 (by kernel_rfl) (by kernel_rfl) λvs v h' h=>?_;unfold Wz at h;split at h
 ·rename_i a0 u
  obtain ⟨n,f,ha,h1⟩:=AQ h;obtain ⟨hF,hq⟩:=Ab h1;have:=Aa hq;simp only [Prod.mk.injEq] at this;obtain ⟨rfl,rfl⟩:=this;have hn:n <= 4611686018427387904:=Eg (HB hF);have hx:=Ba AfI PY (G:=Gl);have w:=λ(hK:Bi a0=true)=>show DK (λa=>a) (C52 a0 n f) _ from .c (λh1=>.r 3 h1 <| .k eT <| .l) λh1=>.r 3 h1 <| .c (λh2=>.k h2 <| .l) λh2=>.k h2 <| .c (λh3=>.a (r52 (C6 PY) a0 n f hn (j:=λ_=>.und) (ApJ hK hn h3)) <| .c (λh4=>.a (AhT (C6 PY) a0 n f hn (j:=λ_=>.und) (ApI (a:=Aom n f) hn h4)) <| .c (λh5=>.k h5 <| .l) λh5=>.k h5 <| .c (λh6=>.k h6 <| .l) λh6=>.k h6 <| .k (eL n) <| .k hF <| .k (eL n) <| .k hF <| .c (λh7=>.a (AhS (C6 PY) a0 n f hn (j:=λ_=>.und) (ApG (a:=Ahr n f) h7)) <| .c (λh8=>.a (AhR (C6 PY) a0 n f hn (j:=λ_=>.und) (ApE (a:=Ahr n f) h8)) <| .l) λh8=>.a (AhR (C6 PY) a0 n f hn (j:=λ_=>.und) (ApD (a:=Ahr n f) h8)) <| .l) λh7=>.a (AhS (C6 PY) a0 n f hn (j:=λ_=>.und) (ApF (a:=Ahr n f) h7)) <| .l) λh4=>.a (AhT (C6 PY) a0 n f hn (j:=λ_=>.und) (ApH (a:=Aom n f) hn h4)) <| .l) λh3=>.c (λg=>.a (r52 (C6 PY) a0 n f hn (j:=λ_=>.und) (ApL hK hn h3 g)) .l) λg=>.a (r52 (C6 PY) a0 n f hn (j:=λ_=>.und) (ApK hK hn h3 g)) .l
  exact ⟨_,cxA Gl Aaa PY,_,AkV ha,rfl,hx.1,hx.2,DK.of (Te (Ah3 a0 n f)) (.c (λh1=>.k (eN h1) <| .k (eN h1) <| .k (eN h1) <| .k eF (w (kn1 h1))) λh1=>.k (eN h1) <| .k (eN h1) <| .k (eN h1) <| .c (λh2=>.k (eN h2) (w (kn2 h2))) λh2=>.k (eN h2) .l) (by kernel_rfl),Au.refl _⟩
 ·cases h
noncomputable def AlS:AH:=(85,AkH)::(86,Yh)::(91,Xs)::(90,Yg)::[]
theorem AfJ:Ao Tryz.prog Gl AlS:=.cons p86 <| .cons p87 <| .cons p92 <| .cons p91 .nil
def AnN (a:Int) (n:Nat) (f:Nat->E6):Int:=(Je a n f).1
def ApN (a:Int) (n:Nat) (f:Nat->E6):Int:=(Je a n f).2
def crI (n:Nat) (l:Nat->Int) (c:Nat->Bool) (q:Int):Int:=(crR n l c q).1
def crB (n:Nat) (l:Nat->Int) (c:Nat->Bool) (q:Int):Bool:=(crR n l c q).2
theorem Vw (p:Nat->Bool) (n:Nat) (hn:n <= 4611686018427387904):okP n (Bu p n)=true:=Bd.2 λi hi=>by
 unfold Bu;cases decide (i<n) with
 | false=>rfl
 | true =>
  cases decide (AD p i=AD p n) with
  | true=>rfl
  | false =>have:=EO p i;exact Zv (by omega)
def C84 (a0:Int) (n:Nat) (f:Nat->E6):A2:=.br (ilt (ofNat n) 2) (.leaf ((.tup [iV 40,iV 0]),[])) (.br (ilt 16 (ofNat n)) (.leaf ((.tup [iV 40,iV 0]),[])) (.br (ieq (AnN a0 n f) 0) (.br (ilt (Jg n f) 2) (.leaf ((.tup [iV 42,iV 0]),[])) (.br (ilt (Kv n f) 2) (.leaf ((.tup [iV 43,iV 0]),[])) (.br (crB n (Bu (λk=>BM (f k)) n) (λi=>isW (f i)) 2) (.leaf ((.tup [iV 44,iV (crI n (Bu (λk=>BM (f k)) n) (λi=>isW (f i)) 2)]),[])) (.br (crB n (Bu (λk=>BX (f k)) n) (λ_=>true) 12) (.leaf ((.tup [iV 45,iV (crI n (Bu (λk=>BX (f k)) n) (λ_=>true) 12)]),[])) (.leaf ((.tup [iV 0,iV 0]),[])))))) (.leaf ((.tup [iV (AnN a0 n f),iV (ApN a0 n f)]),[]))))
theorem Ah2 (a0:Int) (n:Nat) (f:Nat->E6):(C84 a0 n f).sem=some (.tup [iV (My a0 n f).1,iV (My a0 n f).2],[]):=by
 unfold C84 My Yo Wy;cases ilt (ofNat n) 2 with
 | true=>rfl
 | false =>
  cases ilt 16 (ofNat n) with
  | true=>rfl
  | false =>
   show sel (ieq (Je a0 n f).1 0) _ _=_;cases e:ieq (Je a0 n f).1 0 with
   | false=>rfl
   | true =>
    show sel (ilt (Jg n f) 2) _ _=some (V.tup [iV (match ilt (Jg n f) 2,ilt (Kv n f) 2 with
     | true,_=>((42:Int),(0:Int))
     | false,true=>(43,0)
     | false,false=>_).1,iV (match ilt (Jg n f) 2,ilt (Kv n f) 2 with
     | true,_=>((42:Int),(0:Int))
     | false,true=>(43,0)
     | false,false=>_).2],[])
    cases ilt (Jg n f) 2 with
    | true=>rfl
    | false =>
     cases ilt (Kv n f) 2 with
     | true=>rfl
     | false =>
      show sel (crR n (Bu (λk=>BM (f k)) n) (λi=>isW (f i)) 2).2 (some (V.tup [iV 44,iV (crR n (Bu (λk=>BM (f k)) n) (λi=>isW (f i)) 2).1],[])) (sel (crR n (Bu (λk=>BX (f k)) n) (λ_=>true) 12).2 (some (V.tup [iV 45,iV (crR n (Bu (λk=>BX (f k)) n) (λ_=>true) 12).1],[])) _)=_;cases crR n (Bu (λk=>BM (f k)) n) (λi=>isW (f i)) 2 with
      | mk x b =>
       cases b with
       | true=>rfl
       | false =>
        cases crR n (Bu (λk=>BX (f k)) n) (λ_=>true) 12 with
        | mk x b=>cases b <;> rfl
theorem p48:As Tryz.prog Gl 61 Wz:=by
 refine Ah Az mixed Tryz.func61 (by kernel_rfl) (by kernel_rfl) λvs v h' h=>?_;unfold Wz at h;split at h
 ·rename_i a0 u
  obtain ⟨n,f,ha,h1⟩:=AQ h;obtain ⟨hF,hq⟩:=Ab h1;have:=Aa hq;simp only [Prod.mk.injEq] at this;obtain ⟨rfl,rfl⟩:=this;have hn:n <= 4611686018427387904:=Eg (HB hF);have hk:F2 8 (ofNat n) (ofNat n)=true:=Ap4 hF;have hx:=Bm AfJ [] (G:=Gl);have w:DK (λa=>a) (C84 a0 n f) _:=.c (λh1=>.r 4 h1 <| .k eT <| .l) λh1=>.r 4 h1 <| .c (λh2=>.k h2 <| .l) λh2=>.k h2 <| .k (eL n) <| .k hF <| .c (λh3=>.k (eN h3) <| .k (eL n) <| .k (decide_eq_true hn) <| .c (λh4=>.k h4 <| .l) λh4=>.k h4 <| .k (eL n) <| .k (decide_eq_true hn) <| .c (λh5=>.k h5 <| .l) λh5=>.k h5 <| .k (eL n) <| .k hk <| .r 2 (eL n) <| .k (eJ n) <| .k (decide_eq_true hn) <| .k (Vw (λk=>BM (f k)) n hn) <| .c (λh6=>.k h6 <| .l) λh6=>.k h6 <| .k (eL n) <| .k hk <| .k (eL n) <| .k (decide_eq_true hn) <| .k (Vw (λk=>BX (f k)) n hn) <| .c (λh7=>.k h7 <| .l) λh7=>.k h7 <| .l) λh3=>.k (eN h3) <| .l
  exact ⟨_,BP Gl AlS [],_,AkV ha,rfl,hx.1,hx.2,DK.of (Te (Ah2 a0 n f)) (.c (λh1=>.k (eN h1) <| .k (eN h1) <| .k (eN h1) <| .k eF w) λh1=>.k (eN h1) <| .k (eN h1) <| .k (eN h1) <| .c (λh2=>.k (eN h2) w) λh2=>.k (eN h2) .l) (by kernel_rfl),Au.refl _⟩
 ·cases h
end Go.Proofs.YtkbgidbledjejaaGreat.Ed
namespace Go.Proofs.YtkbgidbledjejaaGreat.En
open Go.Sy Go Go.Proofs.YtkbgidbledjejaaGreat.Ed
set_option maxRecDepth 100000
def Anu:Lp:=⟨bmK 26 0 [0,1,4,12,13],0,bmK 26 0 [4],0,4611686018427387905⟩
def S62 (n:Nat) (f g:Nat->E6) (c:Int) (a:Unit) (j:Nat->V):St:=⟨jsV 26 0 j [(0,.sl 6 n (λi=>eV (f i))),(1,.sl 6 n (λi=>eV (g i))),(4,bV false),(12,nV n),(13,iV c)],[]⟩
noncomputable def B62 (L:LT):St->T (Ex×St):=λst=>A8 tab ⟨A6 tbZ,L,Gl⟩ (A0 Tryz.f62 0) 0 st
def Ab0 (n:Nat) (f g:Nat->E6) (i:Nat) (a:Unit):Ex×St:=(.rt,⟨jsV 26 0 Ac [(4,bV false)],[]⟩)
def g62 (n:Nat) (f g:Nat->E6) (i:Nat) (a:Unit):T ((Unit) ⊕ (Ex×St)):=.br (eqE (f i) (g i)) (.leaf (.inl ())) (.leaf (.inr (Ab0 n f g i a)))
def AnF (n:Nat) (f g:Nat->E6) (a:Unit):Ex×St:=(.ex 0,⟨jsV 26 0 Ac [(4,bV false)],[]⟩)
theorem r62 (L:LT) (n:Nat) (f g:Nat->E6)  (hn:n <= 4611686018427387904) {e:Ex×St} {a:Unit} {j:Nat->V} (h:DO (g62 n f g) (AnF n f g) n 0 a=some e):(Ax (B62 L) Anu 4611686018427387905 (S62 n f g 0 a j)).sem=some (exR e) :=
 Ef Ha hn (λi a j r hi h=>DK.ok (L:=goR (S62 n f g) exR i) (.k (ofNat_lt hi) <| .r 2 (Af hi) <| .c (λh1=>.k (eN h1) <| .l) λh1=>.k (eN h1) <| .l) (by kernel_rfl) h) (λa j=>DK.ok (C:=.leaf (AnF n f g a)) (L:=exR) (.k (A4 (Nat.le_refl n)) .l) (by kernel_rfl) rfl) (Nat.zero_add _).symm (Nat.lt_succ_of_le hn) h
def Ads:List (Nat×Lp×List (Nat×(Nat->V))):=[(0,Anu,[])]
theorem XS (f g:Nat->E6) (n:Nat):FI f g n 0=CQ n λi=>eqE (f i) (g i):=by
 rw [Bool.eq_iff_iff,IP,Bd];exact ⟨λh i hi=>(Dd _ _).2 (h i (Nat.zero_le _) (by omega)),λh i _ hi=>(Dd _ _).1 (h i (by omega))⟩
theorem p62:As Tryz.prog Gl 62 P3:=by
 refine Ah Az mixed Tryz.func62 (by kernel_rfl) (by kernel_rfl) λvs v h' h=>?_;obtain ⟨n,f,m,g,ha,h⟩:=NH h;obtain ⟨hn,h⟩:=Ab h;cases Aa h;have hn:n <= 4611686018427387904:=of_decide_eq_true hn;have hx:=Ba It Ads (G:=Gl);refine ⟨[Am n f,Am m g],cxA Gl tbZ Ads,_,ha,rfl,hx.1,hx.2,?_,Au.refl _⟩;unfold EB;cases hm:ieq (Int.ofNat n) (Int.ofNat m) with
 | false=>exact DW.ok (.k (eN hm) <| .l) (by kernel_rfl)
 | true =>
  obtain rfl:n=m:=Int.ofNat.inj (Cz hm);have go:∀ i,i<n->(g62 n f g i ()).sem=sel (eqE (f i) (g i)) (some (.inl ())) (some (.inr (Ab0 n f g i ()))):=λi _=>rfl;show (AK (Ar tab (cxA Gl tbZ Ads) Tryz.f62 [Am n f,Am n g] [])).sem=some (bV (FI f g n 0),[]);rw [XS];cases h1:CQ n λi=>eqE (f i) (g i) with
  | true=>exact DW.ok (.k (eN hm) <| .a (r62 (C6 Ads) n f g hn (j:=λ_=>.und) (ZM go h1)) .l) (by kernel_rfl)
  | false=>exact DW.ok (.k (eN hm) <| .a (r62 (C6 Ads) n f g hn (j:=λ_=>.und) (Ai6 (x:=Ab0 n f g 0 ()) go h1)) .l) (by kernel_rfl)
def isB (a:Int) (k:Nat) (f:Nat->E6):Bool:=sel (ieq (Ft a k f).1 0) (sel (By k f) (EB k (JB k f) k f) false) false
def isT:List V->A2
 | [w,c]=>apS w λa _ _ _ _ _=>apL c λk f=>.br (BG k) (.leaf (bV (isB a k f),[])) .fail
 | _=>.fail
noncomputable def AlN:AH:=(61,Wz)::(59,Yq)::(62,P3)::[]
theorem Af5:Ao Tryz.prog Gl AlN:=.cons p48 <| .cons p65 <| .cons p62 <| .nil
theorem p75:As Tryz.prog Gl 75 isT:=by
 refine Ah Az mixed Tryz.func75 (by kernel_rfl) (by kernel_rfl) λvs v0 h' h=>?_;unfold isT at h;split at h
 rotate_left
 ·cases h
 rename_i w c;obtain ⟨a,n,m,v,L,x,ha,h⟩:=JG h;obtain ⟨k,f,hc,h⟩:=AQ h;obtain ⟨hk,h⟩:=Ab h;cases Aa h;have hx:=Ba Af5 [] (G:=Gl);refine ⟨[.pp (.agg [iV a,iV n,Am m v,Cn L x]),Am k f],cxA Gl AlN [],_,λS w cs hq=>by
  obtain ⟨c,l,rfl,q1,c2,l2,rfl,q2,q3⟩:=hq;exact ⟨c,_,rfl,ha S w c q1,c2,_,rfl,hc S w c2 q2,q3⟩,rfl,hx.1,hx.2,?_,Au.refl _⟩
 unfold isB;cases h1:ieq (Ft a k f).1 0 with
 | false=>exact DW.ok (.k (eL k) <| .k hk <| .k (eN h1) <| .l) (by kernel_rfl)
 | true =>
  cases h2:By k f with
  | true=>exact DW.ok (.k (eL k) <| .k hk <| .k (eN h1) <| .k (eL k) <| .k hk <| .k h2 <| .r 3 (eI 0) <| .r 2 (eL k) <| .k (decide_eq_true (Eg (HB hk))) <| .k (eI 0) <| .l) (by kernel_rfl)
  | false=>exact DW.ok (.k (eL k) <| .k hk <| .k (eN h1) <| .k (eL k) <| .k hk <| .k h2 <| .r 4 (show ieq 30 0=false from rfl) <| .l) (by kernel_rfl)
end Go.Proofs.YtkbgidbledjejaaGreat.En
