/-
  Check, the program's and the document's: one answer. No conditions.
-/
import Derived.Test.YtkbafjceglhjhaaGreatDoorSyY
import Derived.Test.YtkbafjceglhjhaaGreatDoorEdY
import Derived.Test.YtkbafjceglhjhaaGreatDoorCyT
namespace Go.Proofs.YtkbafjceglhjhaaGreatDoor.Ed
open Go.Sy
open Int (ofNat)
noncomputable def ZF:A7:=(121,BX λe=>iV (Be e))::(151,ap2 gI toE λa e=>out (OY a e))::(152,BX λe=>bV (AB e))::(153,BX λe=>bV (AH e))::(154,Sx)::(155,Sw)::(156,Ae1)::[]
theorem Af9:Ao Tryz.prog Gl ZF:=.cons p29 <| .cons p33 <| .cons p60 <| .cons p61 <| .cons p94 <| .cons p95 <| .cons p96 .nil
def Jh (n:Nat) (f:Nat->E6):Int:=ofNat (Ak (λk=>AB (f k)) n)
def K0 (n:Nat) (f:Nat->E6):Int:=ofNat (Ak (λk=>AH (f k)) n)
def X9 (n:Nat) (f:Nat->E6):Int×Int :=
 match crR n (AC (λk=>AH (f k)) n) (λi=>isW (f i)) 2 with
 | (i,true)=>(44,i)
 | (_,false)=>match crR n (AC (λk=>AB (f k)) n) (λ_=>true) 12 with
   | (i,true)=>(45,i)
   | (_,false)=>(0,0)
def VB (n:Nat) (f:Nat->E6):Int×Int :=
 match ilt (Jh n f) 2,ilt (K0 n f) 2 with
 | true,_=>(42,0)
 | false,true=>(43,0)
 | false,false=>X9 n f
def N1 (a:Int) (n:Nat) (f:Nat->E6):Int×Int :=
 match ilt (ofNat n) 2,ilt 16 (ofNat n) with
 | true,_=>(40,0)
 | false,true=>(40,0)
 | false,false=>match Jf a n f,ieq (Jf a n f).1 0 with
  | r,false=>r
  | _,true=>VB n f
def PG (a:Int) (n:Nat) (f:Nat->E6):Int×Int :=
 match ieq a 1,ieq a 2 with
 | false,false=>(1,0)
 | _,_=>N1 a n f
def VA:List V->A5
 | [.val (.int .i64 a),v]=>apL v λn f=>.br (Ct n) (out (.tup [iV (PG a n f).1,iV (PG a n f).2])) .fail
 | _=>.fail
theorem Zk {a:Int} {n:Nat} {f:Nat->E6} (h:ieq a 1=true ∨ ieq a 2=true):PG a n f=N1 a n f:=by
 unfold PG;rcases h with h | h
 ·rw [h]
 ·rw [h]
  cases ieq a 1 <;> rfl
theorem As5 {n:Nat} (h:Ct n=true):EX 8 (ofNat n) (ofNat n)=true:=by
 have:=Kv h;simp only [EX,Bool.and_eq_true,decide_eq_true_eq,Int.ofNat_eq_natCast];omega
theorem AlV {i n:Nat} (h:i<n) (hn:n <= 4611686018427387904):Al (ile 0 (Ay (wr .i64 (Ai (ofNat i) 1)) (ofNat n))) (ilt (Ay (wr .i64 (Ai (ofNat i) 1)) (ofNat n)) (ofNat n))=true:=by
 rw [OI h hn];exact Ad (Nat.mod_lt _ (by omega))
def ApI:Lp:=⟨bmK 133 0 [0,1,4,5,6,7,8,9],0,bmK 133 0 [1,4,5,6,7,8],0,4611686018427387905⟩
def S52 (a0:Int) (n:Nat) (f:Nat->E6) (c:Int) (a:Int×Int) (j:Nat->V):St:=⟨jsV 133 0 j [(0,iV a0),(1,.sl 6 n (λi=>eV (f i))),(4,iV 0),(5,iV 0),(6,nV n),(7,iV a.1),(8,iV a.2),(9,iV c)],[]⟩
noncomputable def B52 (L:LT):St->T (Ex×St):=λst=>AA tab ⟨Aw ZF,L,Gl⟩ (As Tryz.f107 0) 0 st
def Abb (a0:Int) (n:Nat) (f:Nat->E6) (i:Nat) (a:Int×Int):Ex×St:=(.rt,⟨jsV 133 0 Aa [(1,.sl 6 n (λi=>eV (f i))),(4,iV 5),(5,nV i),(6,nV n),(7,iV a.1),(8,iV a.2)],[]⟩)
def Aba (a0:Int) (n:Nat) (f:Nat->E6) (i:Nat) (a:Int×Int):Ex×St:=(.rt,⟨jsV 133 0 Aa [(1,.sl 6 n (λi=>eV (f i))),(4,iV 30),(5,nV i),(6,nV n),(7,iV a.1),(8,iV a.2)],[]⟩)
def g52 (a0:Int) (n:Nat) (f:Nat->E6) (i:Nat) (a:Int×Int):T ((Int×Int) ⊕ (Ex×St)):=.br (ieq (Be (f i)) 0) (.br (Ks a0 (f i)) (.br (AB (f i)) (.br (AH (f i)) (.leaf (.inl ((wr .i64 (Ai a.1 1)),wr .i64 (Ai a.2 1)))) (.leaf (.inl ((wr .i64 (Ai a.1 1)),a.2)))) (.br (AH (f i)) (.leaf (.inl (a.1,wr .i64 (Ai a.2 1)))) (.leaf (.inl (a.1,a.2))))) (.leaf (.inr (Abb a0 n f i a)))) (.leaf (.inr (Aba a0 n f i a)))
def Xm (a0:Int) (n:Nat) (f:Nat->E6) (a:Int×Int):Ex×St:=(.ex 0,⟨jsV 133 0 Aa [(1,.sl 6 n (λi=>eV (f i))),(4,iV 0),(5,iV 0),(6,nV n),(7,iV a.1),(8,iV a.2)],[]⟩)
theorem r52 (L:LT) (a0:Int) (n:Nat) (f:Nat->E6)  (hn:n <= 4611686018427387904) {e:Ex×St} {a:Int×Int} {j:Nat->V} (h:Co (g52 a0 n f) (Xm a0 n f) n 0 a=some e):(Av (B52 L) ApI 4611686018427387905 (S52 a0 n f 0 a j)).sem=some (exR e) :=
 AZ BF hn (λi a j r hi h=>DK.ok (L:=goR (S52 a0 n f) exR i) (.k (ofNat_lt hi) <| .k (Ad hi) <| .c (λh1=>.k (eN h1) <| .k (Ad hi) <| .c (λh2=>.k (eN h2) <| .k (Ad hi) <| .c (λh3=>.k h3 <| .k (Ad hi) <| .c (λh4=>.k h4 <| .l) λh4=>.k h4 <| .l) λh3=>.k h3 <| .k (Ad hi) <| .c (λh5=>.k h5 <| .l) λh5=>.k h5 <| .l) λh2=>.k (eN h2) <| .l) λh1=>.k (eN h1) <| .l) (by kernel_rfl) h) (λa j=>DK.ok (C:=.leaf (Xm a0 n f a)) (L:=exR) (.k (A1 (Nat.le_refl n)) .l) (by kernel_rfl) rfl) (Nat.zero_add _).symm (Nat.lt_succ_of_le hn) h
def AcO:Lp:=⟨bmK 133 0 [1,4,5,6,7,8,12],0,bmK 133 0 [1,4,5,6,7,8],0,4611686018427387905⟩
def AjD (a0:Int) (n:Nat) (f:Nat->E6) (c:Int) (a:Int×Int) (j:Nat->V):St:=⟨jsV 133 0 j [(1,.sl 6 n (λi=>eV (f i))),(4,iV 0),(5,iV 0),(6,nV n),(7,iV a.1),(8,iV a.2),(12,iV c)],[]⟩
noncomputable def Arb (L:LT):St->T (Ex×St):=λst=>AA tab ⟨Aw ZF,L,Gl⟩ (As Tryz.f107 2) 2 st
def KD (a0:Int) (n:Nat) (f:Nat->E6) (i:Nat) (a:Int×Int):Ex×St:=(.rt,⟨jsV 133 0 Aa [(1,.sl 6 n (λi=>eV (f i))),(4,iV 41),(5,nV i),(6,nV n),(7,iV a.1),(8,iV a.2)],[]⟩)
def Vm (a0:Int) (n:Nat) (f:Nat->E6) (i:Nat) (a:Int×Int):T ((Int×Int) ⊕ (Ex×St)):=.br (ieq (f i).dst (f (toN (Ay (wr .i64 (Ai (ofNat i) 1)) (ofNat n)))).src) (.leaf (.inl (a.1,a.2))) (.leaf (.inr (KD a0 n f i a)))
def Pr (a0:Int) (n:Nat) (f:Nat->E6) (a:Int×Int):Ex×St:=(.ex 2,⟨jsV 133 0 Aa [(1,.sl 6 n (λi=>eV (f i))),(4,iV 0),(5,iV 0),(6,nV n),(7,iV a.1),(8,iV a.2)],[]⟩)
theorem AiJ (L:LT) (a0:Int) (n:Nat) (f:Nat->E6)  (hn:n <= 4611686018427387904) {e:Ex×St} {a:Int×Int} {j:Nat->V} (h:Co (Vm a0 n f) (Pr a0 n f) n 0 a=some e):(Av (Arb L) AcO 4611686018427387905 (AjD a0 n f 0 a j)).sem=some (exR e) :=
 AZ BF hn (λi a j r hi h=>DK.ok (L:=goR (AjD a0 n f) exR i) (.k (ofNat_lt hi) <| .k (Ad hi) <| .k (Io hi) <| .k (AlV hi hn) <| .c (λh1=>.k (eN h1) <| .l) λh1=>.k (eN h1) <| .l) (by kernel_rfl) h) (λa j=>DK.ok (C:=.leaf (Pr a0 n f a)) (L:=exR) (.k (A1 (Nat.le_refl n)) .l) (by kernel_rfl) rfl) (Nat.zero_add _).symm (Nat.lt_succ_of_le hn) h
def AcN:Lp:=⟨bmK 133 0 [1,4,5,6,13,14,15],2,bmK 133 0 [1,4,5,6,13],2,4611686018427387905⟩
def AjC (a0:Int) (n:Nat) (f:Nat->E6) (c:Int) (a:(Nat->Int)×(Nat->Int)) (j:Nat->V):St:=⟨jsV 133 0 j [(1,.sl 6 n (λi=>eV (f i))),(4,iV 0),(5,iV 0),(6,nV n),(13,.ref 0),(14,.ref 1),(15,iV c)],[.row 3 1 n (λk=>iV (a.1 k)),.row 3 1 n (λk=>iV (a.2 k))]⟩
noncomputable def Ara (L:LT):St->T (Ex×St):=λst=>AA tab ⟨Aw ZF,L,Gl⟩ (As Tryz.f107 4) 4 st
def KC (a0:Int) (n:Nat) (f:Nat->E6) (i:Nat) (a:(Nat->Int)×(Nat->Int)):Ex×St:=(.rt,⟨jsV 133 0 Aa [(1,.sl 6 n (λi=>eV (f i))),(4,iV 44),(5,nV i),(6,nV n),(13,.ref 0)],[.row 3 1 n (λk=>iV (a.1 k)),.row 3 1 n (λk=>iV (a.2 k))]⟩)
def YV (a0:Int) (n:Nat) (f:Nat->E6) (i:Nat) (a:(Nat->Int)×(Nat->Int)):T (((Nat->Int)×(Nat->Int)) ⊕ (Ex×St)):=.br (ieq (f i).src 2) (.br (ilt 2 (MD n a.2 (λi=>bor (AQ true) (isW (f i))) (a.2 i))) (.leaf (.inr (KC a0 n f i a))) (.leaf (.inl (a.1,a.2)))) (.leaf (.inl (a.1,a.2)))
def Pq (a0:Int) (n:Nat) (f:Nat->E6) (a:(Nat->Int)×(Nat->Int)):Ex×St:=(.ex 4,⟨jsV 133 0 Aa [(1,.sl 6 n (λi=>eV (f i))),(4,iV 0),(5,iV 0),(6,nV n),(13,.ref 0)],[.row 3 1 n (λk=>iV (a.1 k)),.row 3 1 n (λk=>iV (a.2 k))]⟩)
theorem AiI (L:LT) (a0:Int) (n:Nat) (f:Nat->E6)  (hn:n <= 4611686018427387904) {e:Ex×St} {a:(Nat->Int)×(Nat->Int)} {j:Nat->V} (h:Co (YV a0 n f) (Pq a0 n f) n 0 a=some e):(Av (Ara L) AcN 4611686018427387905 (AjC a0 n f 0 a j)).sem=some (exR e) :=
 AZ BF hn (λi a j r hi h=>DK.ok (L:=goR (AjC a0 n f) exR i) (.k (ofNat_lt hi) <| .k (Ad hi) <| .c (λh1=>.r 5 h1 <| .k (Ad hi) <| .k h1 <| .k (decide_eq_true hi) <| .k h1 <| .r 2 (eL n) <| .k (eJ n) <| .k (decide_eq_true hn) <| .r 2 h1 <| .c (λh2=>.k h2 <| .l) λh2=>.k h2 <| .l) λh1=>.r 9 h1 <| .k eF <| .l) (by kernel_rfl) h) (λa j=>DK.ok (C:=.leaf (Pq a0 n f a)) (L:=exR) (.k (A1 (Nat.le_refl n)) .l) (by kernel_rfl) rfl) (Nat.zero_add _).symm (Nat.lt_succ_of_le hn) h
def AcM:Lp:=⟨bmK 133 0 [1,4,5,6,13,16],2,bmK 133 0 [4,5],0,4611686018427387905⟩
def AjB (a0:Int) (n:Nat) (f:Nat->E6) (c:Int) (a:(Nat->Int)×(Nat->Int)) (j:Nat->V):St:=⟨jsV 133 0 j [(1,.sl 6 n (λi=>eV (f i))),(4,iV 0),(5,iV 0),(6,nV n),(13,.ref 0),(16,iV c)],[.row 3 1 n (λk=>iV (a.1 k)),.row 3 1 n (λk=>iV (a.2 k))]⟩
noncomputable def AqZ (L:LT):St->T (Ex×St):=λst=>AA tab ⟨Aw ZF,L,Gl⟩ (As Tryz.f107 6) 6 st
def KB (a0:Int) (n:Nat) (f:Nat->E6) (i:Nat) (a:(Nat->Int)×(Nat->Int)):Ex×St:=(.rt,⟨jsV 133 0 Aa [(4,iV 45),(5,nV i)],[]⟩)
def YU (a0:Int) (n:Nat) (f:Nat->E6) (i:Nat) (a:(Nat->Int)×(Nat->Int)):T (((Nat->Int)×(Nat->Int)) ⊕ (Ex×St)):=.br (ilt 12 (MD n a.1 (λi=>bor (AQ false) (isW (f i))) (a.1 i))) (.leaf (.inr (KB a0 n f i a))) (.leaf (.inl (a.1,a.2)))
def Pp (a0:Int) (n:Nat) (f:Nat->E6) (a:(Nat->Int)×(Nat->Int)):Ex×St:=(.ex 6,⟨jsV 133 0 Aa [(4,iV 0),(5,iV 0)],[]⟩)
theorem AiH (L:LT) (a0:Int) (n:Nat) (f:Nat->E6)  (hn:n <= 4611686018427387904) {e:Ex×St} {a:(Nat->Int)×(Nat->Int)} {j:Nat->V} (h:Co (YU a0 n f) (Pp a0 n f) n 0 a=some e):(Av (AqZ L) AcM 4611686018427387905 (AjB a0 n f 0 a j)).sem=some (exR e) :=
 AZ BF hn (λi a j r hi h=>DK.ok (L:=goR (AjB a0 n f) exR i) (.k (ofNat_lt hi) <| .k (Ad hi) <| .k (decide_eq_true hi) <| .r 2 (eL n) <| .k (eJ n) <| .k (decide_eq_true hn) <| .c (λh1=>.k h1 <| .l) λh1=>.k h1 <| .l) (by kernel_rfl) h) (λa j=>DK.ok (C:=.leaf (Pp a0 n f a)) (L:=exR) (.k (A1 (Nat.le_refl n)) .l) (by kernel_rfl) rfl) (Nat.zero_add _).symm (Nat.lt_succ_of_le hn) h
def OM:List (Nat×Lp×List (Nat×(Nat->V))):=[(0,ApI,[]),(2,AcO,[]),(4,AcN,[]),(6,AcM,[])]
abbrev pO (n:Nat) (f:Nat->E6):Nat->Int:=AC (λk=>AB (f k)) n
abbrev pM (n:Nat) (f:Nat->E6):Nat->Int:=AC (λk=>AH (f k)) n
abbrev AqR (n:Nat) (f:Nat->E6):Int×Int:=(Jh n f,K0 n f)
abbrev AhV (n:Nat) (f:Nat->E6):(Nat->Int)×(Nat->Int):=(pO n f,pM n f)
theorem Adv {a:Int} {e:E6} (h:BE a=true):Ho a e=Be e:=by unfold Ho; rw [h]; rfl
theorem kn1 {a:Int} (h:ieq a 1=true):BE a=true:=by unfold BE; rw [h]; rfl
theorem kn2 {a:Int} (h:ieq a 2=true):BE a=true:=by unfold BE; rw [h]; cases ieq a 1 <;> rfl
section
variable {a0:Int} {n:Nat} {f:Nat->E6}
def Qx (f:Nat->E6) (i:Nat):Int×Int:=(ofNat (Ak (λk=>AB (f k)) i),ofNat (Ak (λk=>AH (f k)) i))
def AeG (a0:Int) (n:Nat) (f:Nat->E6) (i:Nat):Ex×St:=sel (ieq (Ho a0 (f i)) 0) (Abb a0 n f i (Qx f i)) (Aba a0 n f i (Qx f i))
theorem c52 (hK:BE a0=true) (hn:n <= 4611686018427387904) {i:Nat} (hi:i<n) (h:DJ a0 f i=false):(g52 a0 n f i (Qx f i)).sem=some (.inl (Qx f (i+1))):=by
 have h1:=B2 (λk=>AB (f k)) i;have h2:=B2 (λk=>AH (f k)) i;unfold DJ at h;rw [Adv hK] at h;have w1:=EF (show Ak (λk=>AB (f k)) i<n by omega) hn;have w2:=EF (show Ak (λk=>AH (f k)) i<n by omega) hn;show sel (ieq (Be (f i)) 0) _ _=_;cases e1:ieq (Be (f i)) 0 with
 | false=>rw [e1] at h; cases h
 | true =>
  show sel (Ks a0 (f i)) _ _=_;cases e2:Ks a0 (f i) with
  | false=>rw [e1,e2] at h; cases h
  | true =>
   show sel (AB (f i)) (sel (AH (f i)) (some _) (some _)) (sel (AH (f i)) (some _) (some _))=some (Sum.inl (ofNat (match AB (f i) with
    | true=>Ak (λk=>AB (f k)) i+1
    | false=>Ak (λk=>AB (f k)) i),ofNat (match AH (f i) with
    | true=>Ak (λk=>AH (f k)) i+1
    | false=>Ak (λk=>AH (f k)) i)))
   cases AB (f i) <;> cases AH (f i) <;> simp only [sel,Qx,w1,w2] <;> rfl
theorem t52 (hK:BE a0=true) {i:Nat} (h:DJ a0 f i=true):(g52 a0 n f i (Qx f i)).sem=some (.inr (AeG a0 n f i)):=by
 unfold DJ at h;unfold AeG;rw [Adv hK] at h ⊢;show sel (ieq (Be (f i)) 0) _ _=_;cases e1:ieq (Be (f i)) 0 with
 | false=>rfl
 | true =>
  show sel (Ks a0 (f i)) _ _=_;cases e2:Ks a0 (f i) with
  | false=>rfl
  | true=>rw [e1,e2] at h; cases h
theorem AsP (hK:BE a0=true) (hn:n <= 4611686018427387904) (h:isN (AN (DJ a0 f) n 0)=true):Co (g52 a0 n f) (Xm a0 n f) n 0 (0,0)=some (Xm a0 n f (Jh n f,K0 n f)):=Px (acc:=Qx f) (λ_ hi=>c52 hK hn hi) (λ_ _=>t52 hK) h
theorem Aqw (hK:BE a0=true) (hn:n <= 4611686018427387904) (h:isN (AN (DJ a0 f) n 0)=false):Co (g52 a0 n f) (Xm a0 n f) n 0 (0,0)=some (AeG a0 n f (tO (DJ a0 f) n)):=Pw (acc:=Qx f) (λ_ hi=>c52 hK hn hi) (λ_ _=>t52 hK) h
theorem AsR (hK:BE a0=true) (hn:n <= 4611686018427387904) (h:isN (AN (DJ a0 f) n 0)=false) (g:ieq (Ho a0 (f (tO (DJ a0 f) n))) 0=true):Co (g52 a0 n f) (Xm a0 n f) n 0 (0,0)=some (Abb a0 n f (tO (DJ a0 f) n) (Qx f (tO (DJ a0 f) n))):=by rw [Aqw hK hn h,AeG,g]; rfl
theorem AsQ (hK:BE a0=true) (hn:n <= 4611686018427387904) (h:isN (AN (DJ a0 f) n 0)=false) (g:ieq (Ho a0 (f (tO (DJ a0 f) n))) 0=false):Co (g52 a0 n f) (Xm a0 n f) n 0 (0,0)=some (Aba a0 n f (tO (DJ a0 f) n) (Qx f (tO (DJ a0 f) n))):=by rw [Aqw hK hn h,AeG,g]; rfl
theorem Zp (hn:n <= 4611686018427387904) {a:Int×Int} {i:Nat} (hi:i<n):(Vm a0 n f i a).sem=sel (GH n f i) (some (.inr (KD a0 n f i a))) (some (.inl a)):=by
 unfold Vm GH;rw [OI hi hn,show toN (ofNat ((i+1) % n))=(i+1) % n from rfl];cases ieq (f i).dst (f ((i+1) % n)).src <;> rfl
theorem AsO (hn:n <= 4611686018427387904) {a:Int×Int} (h:isN (AN (GH n f) n 0)=true):Co (Vm a0 n f) (Pr a0 n f) n 0 a=some (Pr a0 n f a):=Px (acc:=λ_=>a) (x:=λi=>KD a0 n f i a) (λi hi hq=>by rw [Zp hn hi,hq]; rfl) (λi hi hq=>by rw [Zp hn hi,hq]; rfl) h
theorem AsN (hn:n <= 4611686018427387904) {a:Int×Int} (h:isN (AN (GH n f) n 0)=false):Co (Vm a0 n f) (Pr a0 n f) n 0 a=some (KD a0 n f (tO (GH n f) n) a):=Pw (acc:=λ_=>a) (x:=λi=>KD a0 n f i a) (λi hi hq=>by rw [Zp hn hi,hq]; rfl) (λi hi hq=>by rw [Zp hn hi,hq]; rfl) h
theorem Zo {a:(Nat->Int)×(Nat->Int)} {i:Nat}:(YV a0 n f i a).sem=sel (Bi n a.2 (λi=>isW (f i)) 2 i) (some (.inr (KC a0 n f i a))) (some (.inl a)):=by
 show sel (isW (f i)) _ _=sel (Al (isW (f i)) _) _ _;cases isW (f i) <;> rfl
theorem AsM {a:(Nat->Int)×(Nat->Int)} (h:isN (AN (Bi n a.2 (λi=>isW (f i)) 2) n 0)=true):Co (YV a0 n f) (Pq a0 n f) n 0 a=some (Pq a0 n f a):=Px (acc:=λ_=>a) (x:=λi=>KC a0 n f i a) (λi _ hq=>by rw [Zo,hq]; rfl) (λi _ hq=>by rw [Zo,hq]; rfl) h
theorem AsL {a:(Nat->Int)×(Nat->Int)} (h:isN (AN (Bi n a.2 (λi=>isW (f i)) 2) n 0)=false):Co (YV a0 n f) (Pq a0 n f) n 0 a=some (KC a0 n f (tO (Bi n a.2 (λi=>isW (f i)) 2) n) a):=Pw (acc:=λ_=>a) (x:=λi=>KC a0 n f i a) (λi _ hq=>by rw [Zo,hq]; rfl) (λi _ hq=>by rw [Zo,hq]; rfl) h
theorem Zn {a:(Nat->Int)×(Nat->Int)} {i:Nat}:(YU a0 n f i a).sem=sel (Bi n a.1 (λ_=>true) 12 i) (some (.inr (KB a0 n f i a))) (some (.inl a)):=rfl
theorem AsJ {a:(Nat->Int)×(Nat->Int)} (h:isN (AN (Bi n a.1 (λ_=>true) 12) n 0)=true):Co (YU a0 n f) (Pp a0 n f) n 0 a=some (Pp a0 n f a):=Px (acc:=λ_=>a) (x:=λi=>KB a0 n f i a) (λi _ hq=>by rw [Zn,hq]; rfl) (λi _ hq=>by rw [Zn,hq]; rfl) h
theorem AsI {a:(Nat->Int)×(Nat->Int)} (h:isN (AN (Bi n a.1 (λ_=>true) 12) n 0)=false):Co (YU a0 n f) (Pp a0 n f) n 0 a=some (KB a0 n f (tO (Bi n a.1 (λ_=>true) 12) n) a):=Pw (acc:=λ_=>a) (x:=λi=>KB a0 n f i a) (λi _ hq=>by rw [Zn,hq]; rfl) (λi _ hq=>by rw [Zn,hq]; rfl) h
end
def C52 (a0:Int) (n:Nat) (f:Nat->E6):A5:=.br (ilt (ofNat n) 2) (.leaf ((.tup [iV 40,iV 0]),[])) (.br (ilt 16 (ofNat n)) (.leaf ((.tup [iV 40,iV 0]),[])) (.br (isN (AN (DJ a0 f) n 0)) (.br (isN (AN (GH n f) n 0)) (.br (ilt (Jh n f) 2) (.leaf ((.tup [iV 42,iV 0]),[])) (.br (ilt (K0 n f) 2) (.leaf ((.tup [iV 43,iV 0]),[])) (.br (isN (AN (Bi n (pM n f) (λi=>isW (f i)) 2) n 0)) (.br (isN (AN (Bi n (pO n f) (λ_=>true) 12) n 0)) (.leaf ((.tup [iV 0,iV 0]),[])) (.leaf ((.tup [iV 45,nO (Bi n (pO n f) (λ_=>true) 12) n]),[]))) (.leaf ((.tup [iV 44,nO (Bi n (pM n f) (λi=>isW (f i)) 2) n]),[]))))) (.leaf ((.tup [iV 41,nO (GH n f) n]),[]))) (.br (ieq (Ho a0 (f (tO (DJ a0 f) n))) 0) (.leaf ((.tup [iV 5,nO (DJ a0 f) n]),[])) (.leaf ((.tup [iV 30,nO (DJ a0 f) n]),[])))))
theorem Aik (a0:Int) (n:Nat) (f:Nat->E6):(C52 a0 n f).sem=some (.tup [iV (N1 a0 n f).1,iV (N1 a0 n f).2],[]):=by
 unfold C52 N1 Jf VB X9 crR nO tO;cases ilt (ofNat n) 2 with
 | true=>rfl
 | false =>
  cases ilt 16 (ofNat n) with
  | true=>rfl
  | false =>
   cases AN (DJ a0 f) n 0 with
   | some t =>show sel (ieq (Ho a0 (f t)) 0) _ _=_;cases e:ieq (Ho a0 (f t)) 0 <;> simp only [e] <;> rfl
   | none =>
    cases AN (GH n f) n 0 with
    | some t=>rfl
    | none =>
     show sel (ilt (Jh n f) 2) _ _=some (V.tup [iV (match ilt (Jh n f) 2,ilt (K0 n f) 2 with
      | true,_=>((42:Int),(0:Int))
      | false,true=>(43,0)
      | false,false=>_).1,iV (match ilt (Jh n f) 2,ilt (K0 n f) 2 with
      | true,_=>((42:Int),(0:Int))
      | false,true=>(43,0)
      | false,false=>_).2],[])
     cases ilt (Jh n f) 2 with
     | true=>rfl
     | false =>
      cases ilt (K0 n f) 2 with
      | true=>rfl
      | false =>
       cases AN (Bi n (AC (λk=>AH (f k)) n) (λi=>isW (f i)) 2) n 0 with
       | some t=>rfl
       | none=>cases AN (Bi n (AC (λk=>AB (f k)) n) (λ_=>true) 12) n 0 <;> rfl
def Aj2 (a:Int) (C:A5):A5:=.br (ieq a 1) C (.br (ieq a 2) C (.leaf (.tup [iV 1,iV 0],[])))
theorem R7 {a:Int} {n:Nat} {f:Nat->E6} {C:A5} (h:C.sem=some (.tup [iV (N1 a n f).1,iV (N1 a n f).2],[])):(Aj2 a C).sem=some (.tup [iV (PG a n f).1,iV (PG a n f).2],[]):=by
 unfold Aj2 PG;cases ieq a 1 with
 | true=>exact h
 | false =>
  cases ieq a 2 with
  | true=>exact h
  | false=>rfl
theorem p49:Ap Tryz.prog Gl 107 VA:=by
 refine Ah A2 mixed Tryz.func107 (by kernel_rfl) (by kernel_rfl) λvs v h' h=>?_;unfold VA at h;split at h
 ·rename_i a0 u
  obtain ⟨n,f,ha,h1⟩:=CC h;obtain ⟨hF,hq⟩:=Ac h1;have:=Ab hq;simp only [Prod.mk.injEq] at this;obtain ⟨rfl,rfl⟩:=this;have hn:n <= 4611686018427387904:=E1 (G8 hF);have hx:=AS Af9 OM (G:=Gl);have w:=λ(hK:BE a0=true)=>show DK (λa=>a) (C52 a0 n f) _ from .c (λh1=>.r 3 h1 <| .k eT <| .l) λh1=>.r 3 h1 <| .c (λh2=>.k h2 <| .l) λh2=>.k h2 <| .c (λh3=>.a (r52 (askL OM) a0 n f hn (j:=λ_=>.und) (AsP hK hn h3)) <| .c (λh4=>.a (AiJ (askL OM) a0 n f hn (j:=λ_=>.und) (AsO (a:=AqR n f) hn h4)) <| .c (λh5=>.k h5 <| .l) λh5=>.k h5 <| .c (λh6=>.k h6 <| .l) λh6=>.k h6 <| .k (eL n) <| .k hF <| .k (eL n) <| .k hF <| .c (λh7=>.a (AiI (askL OM) a0 n f hn (j:=λ_=>.und) (AsM (a:=AhV n f) h7)) <| .c (λh8=>.a (AiH (askL OM) a0 n f hn (j:=λ_=>.und) (AsJ (a:=AhV n f) h8)) <| .l) λh8=>.a (AiH (askL OM) a0 n f hn (j:=λ_=>.und) (AsI (a:=AhV n f) h8)) <| .l) λh7=>.a (AiI (askL OM) a0 n f hn (j:=λ_=>.und) (AsL (a:=AhV n f) h7)) <| .l) λh4=>.a (AiJ (askL OM) a0 n f hn (j:=λ_=>.und) (AsN (a:=AqR n f) hn h4)) <| .l) λh3=>.c (λg=>.a (r52 (askL OM) a0 n f hn (j:=λ_=>.und) (AsR hK hn h3 g)) .l) λg=>.a (r52 (askL OM) a0 n f hn (j:=λ_=>.und) (AsQ hK hn h3 g)) .l
  exact ⟨_,cxA Gl ZF OM,_,XI ha,rfl,hx.1,hx.2,DK.of (R7 (Aik a0 n f)) (.c (λh1=>.k (eN h1) <| .k (eN h1) <| .k (eN h1) <| .k eF (w (kn1 h1))) λh1=>.k (eN h1) <| .k (eN h1) <| .k (eN h1) <| .c (λh2=>.k (eN h2) (w (kn2 h2))) λh2=>.k (eN h2) .l) (by kernel_rfl),Am.refl _⟩
 ·cases h
noncomputable def AnR:A7:=(169,Am3)::(170,X8)::(175,WM)::(174,X7)::[]
theorem AfA:Ao Tryz.prog Gl AnR:=.cons p86 <| .cons p87 <| .cons p92 <| .cons p91 .nil
def Aq7 (a:Int) (n:Nat) (f:Nat->E6):Int:=(Jf a n f).1
def AsT (a:Int) (n:Nat) (f:Nat->E6):Int:=(Jf a n f).2
def crI (n:Nat) (l:Nat->Int) (c:Nat->Bool) (q:Int):Int:=(crR n l c q).1
def crB (n:Nat) (l:Nat->Int) (c:Nat->Bool) (q:Int):Bool:=(crR n l c q).2
theorem UC (p:Nat->Bool) (n:Nat) (hn:n <= 4611686018427387904):okP n (AC p n)=true:=A8.2 λi hi=>by
 unfold AC;cases decide (i<n) with
 | false=>rfl
 | true =>
  cases decide (Ak p i=Ak p n) with
  | true=>rfl
  | false =>have:=B2 p i;exact Ts (by omega)
def C84 (a0:Int) (n:Nat) (f:Nat->E6):A5:=.br (ilt (ofNat n) 2) (.leaf ((.tup [iV 40,iV 0]),[])) (.br (ilt 16 (ofNat n)) (.leaf ((.tup [iV 40,iV 0]),[])) (.br (ieq (Aq7 a0 n f) 0) (.br (ilt (Jh n f) 2) (.leaf ((.tup [iV 42,iV 0]),[])) (.br (ilt (K0 n f) 2) (.leaf ((.tup [iV 43,iV 0]),[])) (.br (crB n (AC (λk=>AH (f k)) n) (λi=>isW (f i)) 2) (.leaf ((.tup [iV 44,iV (crI n (AC (λk=>AH (f k)) n) (λi=>isW (f i)) 2)]),[])) (.br (crB n (AC (λk=>AB (f k)) n) (λ_=>true) 12) (.leaf ((.tup [iV 45,iV (crI n (AC (λk=>AB (f k)) n) (λ_=>true) 12)]),[])) (.leaf ((.tup [iV 0,iV 0]),[])))))) (.leaf ((.tup [iV (Aq7 a0 n f),iV (AsT a0 n f)]),[]))))
theorem Aig (a0:Int) (n:Nat) (f:Nat->E6):(C84 a0 n f).sem=some (.tup [iV (N1 a0 n f).1,iV (N1 a0 n f).2],[]):=by
 unfold C84 N1 VB X9;cases ilt (ofNat n) 2 with
 | true=>rfl
 | false =>
  cases ilt 16 (ofNat n) with
  | true=>rfl
  | false =>
   show sel (ieq (Jf a0 n f).1 0) _ _=_;cases e:ieq (Jf a0 n f).1 0 with
   | false=>rfl
   | true =>
    show sel (ilt (Jh n f) 2) _ _=some (V.tup [iV (match ilt (Jh n f) 2,ilt (K0 n f) 2 with
     | true,_=>((42:Int),(0:Int))
     | false,true=>(43,0)
     | false,false=>_).1,iV (match ilt (Jh n f) 2,ilt (K0 n f) 2 with
     | true,_=>((42:Int),(0:Int))
     | false,true=>(43,0)
     | false,false=>_).2],[])
    cases ilt (Jh n f) 2 with
    | true=>rfl
    | false =>
     cases ilt (K0 n f) 2 with
     | true=>rfl
     | false =>
      show sel (crR n (AC (λk=>AH (f k)) n) (λi=>isW (f i)) 2).2 (some (V.tup [iV 44,iV (crR n (AC (λk=>AH (f k)) n) (λi=>isW (f i)) 2).1],[])) (sel (crR n (AC (λk=>AB (f k)) n) (λ_=>true) 12).2 (some (V.tup [iV 45,iV (crR n (AC (λk=>AB (f k)) n) (λ_=>true) 12).1],[])) _)=_;cases crR n (AC (λk=>AH (f k)) n) (λi=>isW (f i)) 2 with
      | mk x b =>
       cases b with
       | true=>rfl
       | false =>
        cases crR n (AC (λk=>AB (f k)) n) (λ_=>true) 12 with
        | mk x b=>cases b <;> rfl
theorem p48:Ap Tryz.prog Gl 138 VA:=by
 refine Ah A2 mixed Tryz.func138 (by kernel_rfl) (by kernel_rfl) λvs v h' h=>?_;unfold VA at h;split at h
 ·rename_i a0 u
  obtain ⟨n,f,ha,h1⟩:=CC h;obtain ⟨hF,hq⟩:=Ac h1;have:=Ab hq;simp only [Prod.mk.injEq] at this;obtain ⟨rfl,rfl⟩:=this;have hn:n <= 4611686018427387904:=E1 (G8 hF);have hk:EX 8 (ofNat n) (ofNat n)=true:=As5 hF;have hx:=Bh AfA [] (G:=Gl);have w:DK (λa=>a) (C84 a0 n f) _:=.c (λh1=>.r 4 h1 <| .k eT <| .l) λh1=>.r 4 h1 <| .c (λh2=>.k h2 <| .l) λh2=>.k h2 <| .k (eL n) <| .k hF <| .c (λh3=>.k (eN h3) <| .k (eL n) <| .k (decide_eq_true hn) <| .c (λh4=>.k h4 <| .l) λh4=>.k h4 <| .k (eL n) <| .k (decide_eq_true hn) <| .c (λh5=>.k h5 <| .l) λh5=>.k h5 <| .k (eL n) <| .k hk <| .r 2 (eL n) <| .k (eJ n) <| .k (decide_eq_true hn) <| .k (UC (λk=>AH (f k)) n hn) <| .c (λh6=>.k h6 <| .l) λh6=>.k h6 <| .k (eL n) <| .k hk <| .k (eL n) <| .k (decide_eq_true hn) <| .k (UC (λk=>AB (f k)) n hn) <| .c (λh7=>.k h7 <| .l) λh7=>.k h7 <| .l) λh3=>.k (eN h3) <| .l
  exact ⟨_,AO Gl AnR [],_,XI ha,rfl,hx.1,hx.2,DK.of (R7 (Aig a0 n f)) (.c (λh1=>.k (eN h1) <| .k (eN h1) <| .k (eN h1) <| .k eF w) λh1=>.k (eN h1) <| .k (eN h1) <| .k (eN h1) <| .c (λh2=>.k (eN h2) w) λh2=>.k (eN h2) .l) (by kernel_rfl),Am.refl _⟩
 ·cases h
end Go.Proofs.YtkbafjceglhjhaaGreatDoor.Ed
namespace Go.Proofs.YtkbafjceglhjhaaGreatDoor.Ed
open Go.Sy
def Hu (a:Int) (n:Nat) (f:Nat->E6):Int:=(PG a n f).1
def AmE (a:Int) (n:Nat) (f:Nat->E6):Int:=(PG a n f).2
end Go.Proofs.YtkbafjceglhjhaaGreatDoor.Ed
namespace Go.Proofs.YtkbafjceglhjhaaGreatDoor.Ed
open Go.Sy
open Int (ofNat)
theorem Ag3 {K a b:Nat} (c:Nat) (h:a % K=b % K):(a+c) % K=(b+c) % K:=by rw [Nat.add_mod,h,<- Nat.add_mod]
theorem Nc {K a b c:Nat} (hab:a <= b) (h:(a+c) % K=(b+c) % K):a % K=b % K:=by
 have h1:=Nat.sub_mod_eq_zero_of_mod_eq h.symm;rw [show b+c-(a+c)=b-a by omega] at h1;have h2:(a+(b-a)) % K=a % K:=by rw [Nat.add_mod,h1,Nat.add_zero,Nat.mod_mod]
 rw [show a+(b-a)=b by omega] at h2;exact h2.symm
theorem WS {K a b c:Nat} (h:(a+c) % K=(b+c) % K):a % K=b % K:=by
 rcases Nat.le_total a b with h1 | h1
 ·exact Nc h1 h
 ·exact (Nc h1 h.symm).symm
theorem LH (p:Nat->Bool) (a:Nat):∀ b,Ak p (a+b)=Ak p a+Ak (λi=>p (a+i)) b
 | 0=>rfl
 | b+1=>by
  rw [show a+(b+1)=a+b+1 by omega,Ak,Ak,LH p a b];cases p (a+b) <;> rfl
theorem Rx (p:Nat->Bool) {n k j:Nat} (hk:k<n) (hj:j <= n):Ak p k+Ak (λi=>p ((k+i) % n)) j=if k+j<n then Ak p (k+j) else Ak p n+Ak p (k+j-n):=by
 split
 ·rename_i h
  rw [LH p k j,CB (q:=λi=>p ((k+i) % n)) (p:=λi=>p (k+i)) j λi hi=>by rw [Nat.mod_eq_of_lt (by omega)]]
 ·rename_i h
  have e:j=(n-k)+(k+j-n):=by omega
  have h1:=LH (λi=>p ((k+i) % n)) (n-k) (k+j-n);rw [<- e] at h1;rw [h1,CB (q:=λi=>p ((k+i) % n)) (p:=λi=>p (k+i)) (n-k) λi hi=>by rw [Nat.mod_eq_of_lt (by omega)],
   CB (q:=λi=>p ((k+(n-k+i)) % n)) (p:=p) (k+j-n) λi hi=>by rw [show k+(n-k+i)=i+n by omega,Nat.add_mod_right,Nat.mod_eq_of_lt (by omega)]]
  have h2:=LH p k (n-k);rw [show k+(n-k)=n by omega] at h2;omega
theorem GZ (p:Nat->Bool) {n k:Nat} (hk:k<n):Ak (λi=>p ((k+i) % n)) n=Ak p n:=by
 have h:=Rx p hk (Nat.le_refl n);rw [if_neg (by omega),show k+n-n=k by omega] at h;omega
theorem J3 (p:Nat->Bool) {n i:Nat} (hi:i<n) (hK:0<Ak p n):AC p n i=ofNat (Ak p i % Ak p n):=by
 unfold AC;rw [decide_eq_true hi];have:=Bc p (show i <= n by omega);by_cases h:Ak p i=Ak p n
 ·rw [decide_eq_true h,h,Nat.mod_self]
  rfl
 ·rw [decide_eq_false h,Nat.mod_eq_of_lt (by omega)]
  rfl
theorem U8 (p:Nat->Bool) {n k i j:Nat} (hk:k<n) (hK:0<Ak p n) (hi:i<n) (hj:j<n) :
  AC (λi=>p ((k+i) % n)) n i=AC (λi=>p ((k+i) % n)) n j↔AC p n ((k+i) % n)=AC p n ((k+j) % n):=by
 have hn:0<n:=by omega
 have hT:=GZ p hk;have key:∀ i,i<n->(Ak p k+Ak (λi=>p ((k+i) % n)) i) % Ak p n=Ak p ((k+i) % n) % Ak p n:=λi hi=>by
  rw [Rx p hk (Nat.le_of_lt hi)];split
  ·rename_i h
   rw [Nat.mod_eq_of_lt h]
  ·rename_i h
   rw [Nat.add_mod_left,show (k+i) % n=k+i-n by rw [show k+i=k+i-n+n by omega,Nat.add_mod_right,Nat.mod_eq_of_lt (by omega)]; omega]
 rw [J3 _ hi (by rw [hT]; exact hK),J3 _ hj (by rw [hT]; exact hK),J3 p (Nat.mod_lt _ hn) hK,J3 p (Nat.mod_lt _ hn) hK,hT,<- key i hi,<- key j hj];constructor
 ·intro h
  have h:=Int.ofNat.inj h;have:=Ag3 (Ak p k) h;rw [Nat.add_comm _ (Ak p k),Nat.add_comm _ (Ak p k)] at this;rw [this]
 ·intro h
  have h:=Int.ofNat.inj h;rw [Nat.add_comm (Ak p k),Nat.add_comm (Ak p k)] at h;rw [WS h]
theorem Dj {q:Nat->Bool}:∀ {d i:Nat},AN q d i=none↔∀ k,i <= k->k<i+d->q k=false
 | 0,i=>⟨λ_ k h1 h2=>by omega,λ_=>rfl⟩
 | d+1,i=>by
  cases hq:q i with
  | true =>rw [Dy hq];refine ⟨λh=>(by cases h),λh=>?_⟩;have:=h i (Nat.le_refl i) (by omega);rw [hq] at this;cases this
  | false =>
   rw [Dz hq,Dj];refine ⟨λh k h1 h2=>?_,λh k h1 h2=>h k (by omega) (by omega)⟩;by_cases e:k=i
   ·rw [e]; exact hq
   ·exact h k (by omega) (by omega)
structure IsCycle (a:Int) (n:Nat) (f:Nat->E6):Prop where
 arch:ieq a 1=true ∨ ieq a 2=true
 lo:2 <= n
 hi:n <= 16
 legal:∀ i,i<n->DJ a f i=false
 meets:∀ i,i<n->GH n f i=false
 outer:2 <= Ak (λk=>AB (f k)) n
 moves:2 <= Ak (λk=>AH (f k)) n
 writes:∀ i,i<n->Bi n (AC (λk=>AH (f k)) n) (λi=>isW (f i)) 2 i=false
 crowd:∀ i,i<n->Bi n (AC (λk=>AB (f k)) n) (λ_=>true) 12 i=false
theorem V6 {n:Nat} {l:Nat->Int} {c:Nat->Bool} {q:Int} (h:∀ i,i<n->Bi n l c q i=false):crR n l c q=(0,false):=by
 unfold crR;rw [Dj.2 λk _ h2=>h k (by omega)]
theorem Rs {n:Nat} {l:Nat->Int} {c:Nat->Bool} {q:Int} (h:(crR n l c q).2=false):∀ i,i<n->Bi n l c q i=false:=by
 unfold crR at h;cases hc:AN (Bi n l c q) n 0 with
 | some t=>rw [hc] at h; cases h
 | none=>exact λi hi=>Dj.1 hc i (Nat.zero_le i) (by omega)
theorem IsCycle.ok {a:Int} {n:Nat} {f:Nat->E6} (h:IsCycle a n f):PG a n f=(0,0):=by
 have e1:Jf a n f=(0,0):=by
  unfold Jf;rw [Dj.2 λk _ h2=>h.legal k (by omega)];show (match AN (GH n f) n 0 with | some t=>((41:Int),ofNat t) | none=>(0,0))=(0,0)
  rw [Dj.2 λk _ h2=>h.meets k (by omega)]
 have c1:ilt (ofNat n) 2=false:=by rw [show (2:Int)=ofNat 2 from rfl,Cw,decide_eq_false (by have:=h.lo; omega)]
 have c2:ilt 16 (ofNat n)=false:=by rw [show (16:Int)=ofNat 16 from rfl,Cw,decide_eq_false (by have:=h.hi; omega)]
 have c3:ilt (Jh n f) 2=false:=by unfold Jh; rw [show (2:Int)=ofNat 2 from rfl,Cw,decide_eq_false (by have:=h.outer; omega)]
 have c4:ilt (K0 n f) 2=false:=by unfold K0; rw [show (2:Int)=ofNat 2 from rfl,Cw,decide_eq_false (by have:=h.moves; omega)]
 rw [Zk h.arch];unfold N1;rw [c1,c2,e1];show VB n f=(0,0);unfold VB;rw [c3,c4];show X9 n f=(0,0);unfold X9;rw [V6 h.writes,V6 h.crowd]
theorem Bt {a:Int} {n:Nat} {f:Nat->E6} (h:ieq (Hu a n f) 0=true):IsCycle a n f:=by
 have h:=BP h;unfold Hu at h;have ha:ieq a 1=true ∨ ieq a 2=true:=by
  cases ca:ieq a 1 with
  | true=>exact .inl rfl
  | false =>
   cases cb:ieq a 2 with
   | true=>exact .inr rfl
   | false =>unfold PG at h;rw [ca,cb] at h;cases h
 rw [Zk ha] at h;unfold N1 at h;cases c1:ilt (ofNat n) 2 with
 | true=>rw [c1] at h; cases h
 | false =>
  cases c2:ilt 16 (ofNat n) with
  | true=>rw [c1,c2] at h; cases h
  | false =>
   rw [c1,c2] at h;have h:(match Jf a n f,ieq (Jf a n f).1 0 with | r,false=>r | _,true=>VB n f).1=0:=h
   cases c3:ieq (Jf a n f).1 0 with
   | false =>rw [c3] at h;have h:(Jf a n f).1=0:=h;rw [h] at c3;cases c3
   | true =>
    rw [c3] at h;have h:(VB n f).1=0:=h;have c3:=BP c3;unfold VB at h;cases c4:ilt (Jh n f) 2 with
    | true=>rw [c4] at h; cases h
    | false =>
     cases c5:ilt (K0 n f) 2 with
     | true=>rw [c4,c5] at h; cases h
     | false =>
      rw [c4,c5] at h;have h:(X9 n f).1=0:=h;unfold X9 at h;cases c6:(crR n (AC (λk=>AH (f k)) n) (λi=>isW (f i)) 2).2 with
      | true =>rw [show crR n (AC (λk=>AH (f k)) n) (λi=>isW (f i)) 2=((crR n (AC (λk=>AH (f k)) n) (λi=>isW (f i)) 2).1,true) from Prod.ext rfl c6] at h;cases h
      | false =>
       rw [show crR n (AC (λk=>AH (f k)) n) (λi=>isW (f i)) 2=((crR n (AC (λk=>AH (f k)) n) (λi=>isW (f i)) 2).1,false) from Prod.ext rfl c6] at h;cases c7:(crR n (AC (λk=>AB (f k)) n) (λ_=>true) 12).2 with
       | true =>rw [show crR n (AC (λk=>AB (f k)) n) (λ_=>true) 12=((crR n (AC (λk=>AB (f k)) n) (λ_=>true) 12).1,true) from Prod.ext rfl c7] at h;cases h
       | false =>
        have e1:AN (DJ a f) n 0=none∧AN (GH n f) n 0=none:=by
         unfold Jf at c3;cases d1:AN (DJ a f) n 0 with
         | some t =>
          rw [d1] at c3;cases d2:ieq (Ho a (f t)) 0 with
          | true=>simp only [d2] at c3; cases c3
          | false=>simp only [d2] at c3; cases c3
         | none =>
          rw [d1] at c3;cases d2:AN (GH n f) n 0 with
          | some t=>rw [d2] at c3; cases c3
          | none=>exact ⟨rfl,rfl⟩
        rw [show (2:Int)=ofNat 2 from rfl,Cw] at c1;rw [show (16:Int)=ofNat 16 from rfl,Cw] at c2;unfold Jh at c4;rw [show (2:Int)=ofNat 2 from rfl,Cw] at c4;unfold K0 at c5;rw [show (2:Int)=ofNat 2 from rfl,Cw] at c5;have c1:=of_decide_eq_false c1;have c2:=of_decide_eq_false c2;have c4:=of_decide_eq_false c4;have c5:=of_decide_eq_false c5;exact ⟨ha,by omega,by omega,λi hi=>Dj.1 e1.1 i (Nat.zero_le i) (by omega),λi hi=>Dj.1 e1.2 i (Nat.zero_le i) (by omega),by omega,by omega,Rs c6,Rs c7⟩
theorem IL (p c:Nat->Bool) {n k:Nat} (hk:k<n) (hK:0<Ak p n) (q:Int) {i:Nat} (hi:i<n) :
  Bi n (AC (λi=>p ((k+i) % n)) n) (λi=>c ((k+i) % n)) q i=Bi n (AC p n) c q ((k+i) % n):=by
 unfold Bi MD;rw [CB (q:=CH (AC (λi=>p ((k+i) % n)) n) (λi=>c ((k+i) % n)) (AC (λi=>p ((k+i) % n)) n i)) (p:=λj=>CH (AC p n) c (AC p n ((k+i) % n)) ((k+j) % n)) n λj hj=>by
  unfold CH;have h1:=U8 p hk hK hj hi;by_cases e:AC (λi=>p ((k+i) % n)) n j=AC (λi=>p ((k+i) % n)) n i
  ·rw [e,h1.1 e,Tb,Tb]
  ·rw [show ieq (AC (λi=>p ((k+i) % n)) n j) (AC (λi=>p ((k+i) % n)) n i)=false by simp [ieq,e],show ieq (AC p n ((k+j) % n)) (AC p n ((k+i) % n))=false by
    have:¬ AC p n ((k+j) % n)=AC p n ((k+i) % n):=λh=>e (h1.2 h);simp [ieq,this]]]
 rw [GZ (CH (AC p n) c (AC p n ((k+i) % n))) hk]
theorem IsCycle.turned {a:Int} {n:Nat} {f:Nat->E6} (h:IsCycle a n f) {k:Nat} (hk:k<n):IsCycle a n λi=>f ((k+i) % n):=by
 have hn:0<n:=by omega
 have ho:=h.outer;have hm:=h.moves;refine ⟨h.arch,h.lo,h.hi,λi hi=>h.legal _ (Nat.mod_lt _ hn),λi hi=>?_,?_,?_,λi hi=>?_,λi hi=>?_⟩
 ·have:=h.meets ((k+i) % n) (Nat.mod_lt _ hn)
  unfold GH at this ⊢;rw [Nat.mod_add_mod] at this;show AQ (ieq (f ((k+i) % n)).dst (f ((k+(i+1) % n) % n)).src)=false;rw [Nat.add_mod_mod,<- Nat.add_assoc];exact this
 ·show 2 <= Ak (λi=>(λk=>AB (f k)) ((k+i) % n)) n
  rw [GZ (λk=>AB (f k)) hk];exact ho
 ·show 2 <= Ak (λi=>(λk=>AH (f k)) ((k+i) % n)) n
  rw [GZ (λk=>AH (f k)) hk];exact hm
 ·show Bi n (AC (λi=>(λk=>AH (f k)) ((k+i) % n)) n) (λi=>(λk=>isW (f k)) ((k+i) % n)) 2 i=false
  rw [IL (λk=>AH (f k)) (λk=>isW (f k)) hk (by omega) 2 hi];exact h.writes _ (Nat.mod_lt _ hn)
 ·show Bi n (AC (λi=>(λk=>AB (f k)) ((k+i) % n)) n) (λi=>(λ_=>true) ((k+i) % n)) 12 i=false
  rw [IL (λk=>AB (f k)) (λ_=>true) hk (by omega) 12 hi];exact h.crowd _ (Nat.mod_lt _ hn)
theorem IsCycle.may {a:Int} {n:Nat} {f:Nat->E6} (h:IsCycle a n f):Di n f=true:=D9.2 λi hi=>by
 have h1:=h.legal i hi;unfold DJ at h1;cases c:ieq (Ho a (f i)) 0 with
 | false=>rw [c] at h1; cases h1
 | true =>
  have c:=BP c;rcases h.arch with ha | ha
  ·rw [BP ha] at c; exact c
  ·rw [BP ha] at c; exact c
noncomputable def tb18:A7:=(138,VA)::(107,VA)::(77,KG)::(48,Hv)::(43,On)::[]
theorem tb18_ok:Ao Tryz.prog Gl tb18:=.cons p48 <| .cons p49 <| .cons p69 <| .cons p65 <| .cons p42 .nil
def lp18 (a:Int) (n:Nat) (f:Nat->E6) (b:Int):Lp:=⟨bmK 139 0 [1,6,14,24],4,bmK 139 0 [6],0,n+1⟩
end Go.Proofs.YtkbafjceglhjhaaGreatDoor.Ed
