/-
  Check, the program's and the document's: one answer. No conditions.
-/
import Derived.Test.YtkbafjceglhjhaaGreatDoorEdX
import Derived.Test.YtkbafjceglhjhaaGreatDoorEdY
import Derived.Test.YtkbafjceglhjhaaGreatDoorCyT
namespace Go.Proofs.YtkbafjceglhjhaaGreatDoor.Ed
open Go.Sy
open Int (ofNat)
noncomputable def Zm:AE:=(121,Cc λe=>iV (Bl e))::(151,ap2 gI toE λa e=>out (OZ a e))::(152,Cc λe=>bV (A9 e))::(153,Cc λe=>bV (AG e))::(154,Sq)::(155,Sp)::(156,AdK)::[]
theorem AeG:Ar Tryz.prog Gl Zm:=.cons p29 <| .cons p33 <| .cons p60 <| .cons p61 <| .cons p94 <| .cons p95 <| .cons p96 .nil
def Jl (n:Nat) (f:Nat->E6):Int:=ofNat (Al (λk=>A9 (f k)) n)
def K8 (n:Nat) (f:Nat->E6):Int:=ofNat (Al (λk=>AG (f k)) n)
def Xn (n:Nat) (f:Nat->E6):Int×Int :=
 match crR n (A8 (λk=>AG (f k)) n) (λi=>isW (f i)) 2 with
 | (i,true)=>(44,i)
 | (_,false)=>match crR n (A8 (λk=>A9 (f k)) n) (λ_=>true) 12 with
   | (i,true)=>(45,i)
   | (_,false)=>(0,0)
def Vw (n:Nat) (f:Nat->E6):Int×Int :=
 match ilt (Jl n f) 2,ilt (K8 n f) 2 with
 | true,_=>(42,0)
 | false,true=>(43,0)
 | false,false=>Xn n f
def NA (a:Int) (n:Nat) (f:Nat->E6):Int×Int :=
 match ilt (ofNat n) 2,ilt 16 (ofNat n) with
 | true,_=>(40,0)
 | false,true=>(40,0)
 | false,false=>match Ji a n f,ieq (Ji a n f).1 0 with
  | r,false=>r
  | _,true=>Vw n f
def PI (a:Int) (n:Nat) (f:Nat->E6):Int×Int :=
 match ieq a 1,ieq a 2 with
 | false,false=>(1,0)
 | _,_=>NA a n f
def Aap:List V->AA
 | [.val (.int .i64 a),v]=>apL v λn f=>.br (Dg n) (out (.tup [iV (PI a n f).1,iV (PI a n f).2])) .fail
 | _=>.fail
theorem YM {a:Int} {n:Nat} {f:Nat->E6} (h:ieq a 1=true ∨ ieq a 2=true):PI a n f=NA a n f:=by
 unfold PI;rcases h with h | h
 ·rw [h]
 ·rw [h]
  cases ieq a 1 <;> rfl
theorem Aq6 {n:Nat} (h:Dg n=true):EL 8 (ofNat n) (ofNat n)=true:=by
 have:=K4 h;simp only [EL,Bool.and_eq_true,decide_eq_true_eq,Int.ofNat_eq_natCast];omega
theorem Alh {i n:Nat} (h:i<n) (hn:n <= 4611686018427387904):Ak (ile 0 (Av (wr .i64 (Ai (ofNat i) 1)) (ofNat n))) (ilt (Av (wr .i64 (Ai (ofNat i) 1)) (ofNat n)) (ofNat n))=true:=by
 rw [OJ h hn];exact Ae (Nat.mod_lt _ (by omega))
def Aoq:Lp:=⟨bmK 133 0 [0,1,4,5,6,7,8,9],0,bmK 133 0 [1,4,5,6,7,8],0,4611686018427387905⟩
def S52 (a0:Int) (n:Nat) (f:Nat->E6) (c:Int) (a:Int×Int) (j:Nat->V):St:=⟨jsV 133 0 j [(0,iV a0),(1,.sl 6 n (λi=>eV (f i))),(4,iV 0),(5,iV 0),(6,nV n),(7,iV a.1),(8,iV a.2),(9,iV c)],[]⟩
noncomputable def B52 (L:LT):St->T (Ex×St):=λst=>AK tab ⟨A2 Zm,L,Gl⟩ (A3 Tryz.f107 0) 0 st
def Aa3 (a0:Int) (n:Nat) (f:Nat->E6) (i:Nat) (a:Int×Int):Ex×St:=(.rt,⟨jsV 133 0 Ab [(1,.sl 6 n (λi=>eV (f i))),(4,iV 5),(5,nV i),(6,nV n),(7,iV a.1),(8,iV a.2)],[]⟩)
def Aa2 (a0:Int) (n:Nat) (f:Nat->E6) (i:Nat) (a:Int×Int):Ex×St:=(.rt,⟨jsV 133 0 Ab [(1,.sl 6 n (λi=>eV (f i))),(4,iV 30),(5,nV i),(6,nV n),(7,iV a.1),(8,iV a.2)],[]⟩)
def g52 (a0:Int) (n:Nat) (f:Nat->E6) (i:Nat) (a:Int×Int):T ((Int×Int) ⊕ (Ex×St)):=.br (ieq (Bl (f i)) 0) (.br (Kz a0 (f i)) (.br (A9 (f i)) (.br (AG (f i)) (.leaf (.inl ((wr .i64 (Ai a.1 1)),wr .i64 (Ai a.2 1)))) (.leaf (.inl ((wr .i64 (Ai a.1 1)),a.2)))) (.br (AG (f i)) (.leaf (.inl (a.1,wr .i64 (Ai a.2 1)))) (.leaf (.inl (a.1,a.2))))) (.leaf (.inr (Aa3 a0 n f i a)))) (.leaf (.inr (Aa2 a0 n f i a)))
def WO (a0:Int) (n:Nat) (f:Nat->E6) (a:Int×Int):Ex×St:=(.ex 0,⟨jsV 133 0 Ab [(1,.sl 6 n (λi=>eV (f i))),(4,iV 0),(5,iV 0),(6,nV n),(7,iV a.1),(8,iV a.2)],[]⟩)
theorem r52 (L:LT) (a0:Int) (n:Nat) (f:Nat->E6)  (hn:n <= 4611686018427387904) {e:Ex×St} {a:Int×Int} {j:Nat->V} (h:Cm (g52 a0 n f) (WO a0 n f) n 0 a=some e):(A4 (B52 L) Aoq 4611686018427387905 (S52 a0 n f 0 a j)).sem=some (exR e) :=
 AW BG hn (λi a j r hi h=>DK.ok (L:=goR (S52 a0 n f) exR i) (.k (ofNat_lt hi) <| .k (Ae hi) <| .c (λh1=>.k (eN h1) <| .k (Ae hi) <| .c (λh2=>.k (eN h2) <| .k (Ae hi) <| .c (λh3=>.k h3 <| .k (Ae hi) <| .c (λh4=>.k h4 <| .l) λh4=>.k h4 <| .l) λh3=>.k h3 <| .k (Ae hi) <| .c (λh5=>.k h5 <| .l) λh5=>.k h5 <| .l) λh2=>.k (eN h2) <| .l) λh1=>.k (eN h1) <| .l) (by kernel_rfl) h) (λa j=>DK.ok (C:=.leaf (WO a0 n f a)) (L:=exR) (.k (Az (Nat.le_refl n)) .l) (by kernel_rfl) rfl) (Nat.zero_add _).symm (Nat.lt_succ_of_le hn) h
def Acm:Lp:=⟨bmK 133 0 [1,4,5,6,7,8,12],0,bmK 133 0 [1,4,5,6,7,8],0,4611686018427387905⟩
def AiL (a0:Int) (n:Nat) (f:Nat->E6) (c:Int) (a:Int×Int) (j:Nat->V):St:=⟨jsV 133 0 j [(1,.sl 6 n (λi=>eV (f i))),(4,iV 0),(5,iV 0),(6,nV n),(7,iV a.1),(8,iV a.2),(12,iV c)],[]⟩
noncomputable def ApF (L:LT):St->T (Ex×St):=λst=>AK tab ⟨A2 Zm,L,Gl⟩ (A3 Tryz.f107 2) 2 st
def KJ (a0:Int) (n:Nat) (f:Nat->E6) (i:Nat) (a:Int×Int):Ex×St:=(.rt,⟨jsV 133 0 Ab [(1,.sl 6 n (λi=>eV (f i))),(4,iV 41),(5,nV i),(6,nV n),(7,iV a.1),(8,iV a.2)],[]⟩)
def UX (a0:Int) (n:Nat) (f:Nat->E6) (i:Nat) (a:Int×Int):T ((Int×Int) ⊕ (Ex×St)):=.br (ieq (f i).dst (f (toN (Av (wr .i64 (Ai (ofNat i) 1)) (ofNat n)))).src) (.leaf (.inl (a.1,a.2))) (.leaf (.inr (KJ a0 n f i a)))
def Pt (a0:Int) (n:Nat) (f:Nat->E6) (a:Int×Int):Ex×St:=(.ex 2,⟨jsV 133 0 Ab [(1,.sl 6 n (λi=>eV (f i))),(4,iV 0),(5,iV 0),(6,nV n),(7,iV a.1),(8,iV a.2)],[]⟩)
theorem AhG (L:LT) (a0:Int) (n:Nat) (f:Nat->E6)  (hn:n <= 4611686018427387904) {e:Ex×St} {a:Int×Int} {j:Nat->V} (h:Cm (UX a0 n f) (Pt a0 n f) n 0 a=some e):(A4 (ApF L) Acm 4611686018427387905 (AiL a0 n f 0 a j)).sem=some (exR e) :=
 AW BG hn (λi a j r hi h=>DK.ok (L:=goR (AiL a0 n f) exR i) (.k (ofNat_lt hi) <| .k (Ae hi) <| .k (Ll hi) <| .k (Alh hi hn) <| .c (λh1=>.k (eN h1) <| .l) λh1=>.k (eN h1) <| .l) (by kernel_rfl) h) (λa j=>DK.ok (C:=.leaf (Pt a0 n f a)) (L:=exR) (.k (Az (Nat.le_refl n)) .l) (by kernel_rfl) rfl) (Nat.zero_add _).symm (Nat.lt_succ_of_le hn) h
def Acl:Lp:=⟨bmK 133 0 [1,4,5,6,13,14,15],2,bmK 133 0 [1,4,5,6,13],2,4611686018427387905⟩
def AiK (a0:Int) (n:Nat) (f:Nat->E6) (c:Int) (a:(Nat->Int)×(Nat->Int)) (j:Nat->V):St:=⟨jsV 133 0 j [(1,.sl 6 n (λi=>eV (f i))),(4,iV 0),(5,iV 0),(6,nV n),(13,.ref 0),(14,.ref 1),(15,iV c)],[.row 3 1 n (λk=>iV (a.1 k)),.row 3 1 n (λk=>iV (a.2 k))]⟩
noncomputable def ApE (L:LT):St->T (Ex×St):=λst=>AK tab ⟨A2 Zm,L,Gl⟩ (A3 Tryz.f107 4) 4 st
def KI (a0:Int) (n:Nat) (f:Nat->E6) (i:Nat) (a:(Nat->Int)×(Nat->Int)):Ex×St:=(.rt,⟨jsV 133 0 Ab [(1,.sl 6 n (λi=>eV (f i))),(4,iV 44),(5,nV i),(6,nV n),(13,.ref 0)],[.row 3 1 n (λk=>iV (a.1 k)),.row 3 1 n (λk=>iV (a.2 k))]⟩)
def Y5 (a0:Int) (n:Nat) (f:Nat->E6) (i:Nat) (a:(Nat->Int)×(Nat->Int)):T (((Nat->Int)×(Nat->Int)) ⊕ (Ex×St)):=.br (ieq (f i).src 2) (.br (ilt 2 (MJ n a.2 (λi=>bor (AV true) (isW (f i))) (a.2 i))) (.leaf (.inr (KI a0 n f i a))) (.leaf (.inl (a.1,a.2)))) (.leaf (.inl (a.1,a.2)))
def Pr (a0:Int) (n:Nat) (f:Nat->E6) (a:(Nat->Int)×(Nat->Int)):Ex×St:=(.ex 4,⟨jsV 133 0 Ab [(1,.sl 6 n (λi=>eV (f i))),(4,iV 0),(5,iV 0),(6,nV n),(13,.ref 0)],[.row 3 1 n (λk=>iV (a.1 k)),.row 3 1 n (λk=>iV (a.2 k))]⟩)
theorem AhF (L:LT) (a0:Int) (n:Nat) (f:Nat->E6)  (hn:n <= 4611686018427387904) {e:Ex×St} {a:(Nat->Int)×(Nat->Int)} {j:Nat->V} (h:Cm (Y5 a0 n f) (Pr a0 n f) n 0 a=some e):(A4 (ApE L) Acl 4611686018427387905 (AiK a0 n f 0 a j)).sem=some (exR e) :=
 AW BG hn (λi a j r hi h=>DK.ok (L:=goR (AiK a0 n f) exR i) (.k (ofNat_lt hi) <| .k (Ae hi) <| .c (λh1=>.r 5 h1 <| .k (Ae hi) <| .k h1 <| .k (decide_eq_true hi) <| .k h1 <| .r 2 (eL n) <| .k (eJ n) <| .k (decide_eq_true hn) <| .r 2 h1 <| .c (λh2=>.k h2 <| .l) λh2=>.k h2 <| .l) λh1=>.r 9 h1 <| .k eF <| .l) (by kernel_rfl) h) (λa j=>DK.ok (C:=.leaf (Pr a0 n f a)) (L:=exR) (.k (Az (Nat.le_refl n)) .l) (by kernel_rfl) rfl) (Nat.zero_add _).symm (Nat.lt_succ_of_le hn) h
def Ack:Lp:=⟨bmK 133 0 [1,4,5,6,13,16],2,bmK 133 0 [4,5],0,4611686018427387905⟩
def AiJ (a0:Int) (n:Nat) (f:Nat->E6) (c:Int) (a:(Nat->Int)×(Nat->Int)) (j:Nat->V):St:=⟨jsV 133 0 j [(1,.sl 6 n (λi=>eV (f i))),(4,iV 0),(5,iV 0),(6,nV n),(13,.ref 0),(16,iV c)],[.row 3 1 n (λk=>iV (a.1 k)),.row 3 1 n (λk=>iV (a.2 k))]⟩
noncomputable def ApD (L:LT):St->T (Ex×St):=λst=>AK tab ⟨A2 Zm,L,Gl⟩ (A3 Tryz.f107 6) 6 st
def KH (a0:Int) (n:Nat) (f:Nat->E6) (i:Nat) (a:(Nat->Int)×(Nat->Int)):Ex×St:=(.rt,⟨jsV 133 0 Ab [(4,iV 45),(5,nV i)],[]⟩)
def Y4 (a0:Int) (n:Nat) (f:Nat->E6) (i:Nat) (a:(Nat->Int)×(Nat->Int)):T (((Nat->Int)×(Nat->Int)) ⊕ (Ex×St)):=.br (ilt 12 (MJ n a.1 (λi=>bor (AV false) (isW (f i))) (a.1 i))) (.leaf (.inr (KH a0 n f i a))) (.leaf (.inl (a.1,a.2)))
def Pq (a0:Int) (n:Nat) (f:Nat->E6) (a:(Nat->Int)×(Nat->Int)):Ex×St:=(.ex 6,⟨jsV 133 0 Ab [(4,iV 0),(5,iV 0)],[]⟩)
theorem AhE (L:LT) (a0:Int) (n:Nat) (f:Nat->E6)  (hn:n <= 4611686018427387904) {e:Ex×St} {a:(Nat->Int)×(Nat->Int)} {j:Nat->V} (h:Cm (Y4 a0 n f) (Pq a0 n f) n 0 a=some e):(A4 (ApD L) Ack 4611686018427387905 (AiJ a0 n f 0 a j)).sem=some (exR e) :=
 AW BG hn (λi a j r hi h=>DK.ok (L:=goR (AiJ a0 n f) exR i) (.k (ofNat_lt hi) <| .k (Ae hi) <| .k (decide_eq_true hi) <| .r 2 (eL n) <| .k (eJ n) <| .k (decide_eq_true hn) <| .c (λh1=>.k h1 <| .l) λh1=>.k h1 <| .l) (by kernel_rfl) h) (λa j=>DK.ok (C:=.leaf (Pq a0 n f a)) (L:=exR) (.k (Az (Nat.le_refl n)) .l) (by kernel_rfl) rfl) (Nat.zero_add _).symm (Nat.lt_succ_of_le hn) h
def OO:List (Nat×Lp×List (Nat×(Nat->V))):=[(0,Aoq,[]),(2,Acm,[]),(4,Acl,[]),(6,Ack,[])]
abbrev pO (n:Nat) (f:Nat->E6):Nat->Int:=A8 (λk=>A9 (f k)) n
abbrev pM (n:Nat) (f:Nat->E6):Nat->Int:=A8 (λk=>AG (f k)) n
abbrev Ap2 (n:Nat) (f:Nat->E6):Int×Int:=(Jl n f,K8 n f)
abbrev AgW (n:Nat) (f:Nat->E6):(Nat->Int)×(Nat->Int):=(pO n f,pM n f)
theorem AcB {a:Int} {e:E6} (h:BE a=true):Ho a e=Bl e:=by unfold Ho; rw [h]; rfl
theorem kn1 {a:Int} (h:ieq a 1=true):BE a=true:=by unfold BE; rw [h]; rfl
theorem kn2 {a:Int} (h:ieq a 2=true):BE a=true:=by unfold BE; rw [h]; cases ieq a 1 <;> rfl
section
variable {a0:Int} {n:Nat} {f:Nat->E6}
def Qv (f:Nat->E6) (i:Nat):Int×Int:=(ofNat (Al (λk=>A9 (f k)) i),ofNat (Al (λk=>AG (f k)) i))
def AdY (a0:Int) (n:Nat) (f:Nat->E6) (i:Nat):Ex×St:=sel (ieq (Ho a0 (f i)) 0) (Aa3 a0 n f i (Qv f i)) (Aa2 a0 n f i (Qv f i))
theorem c52 (hK:BE a0=true) (hn:n <= 4611686018427387904) {i:Nat} (hi:i<n) (h:Ea a0 f i=false):(g52 a0 n f i (Qv f i)).sem=some (.inl (Qv f (i+1))):=by
 have h1:=BI (λk=>A9 (f k)) i;have h2:=BI (λk=>AG (f k)) i;unfold Ea at h;rw [AcB hK] at h;have w1:=CU (show Al (λk=>A9 (f k)) i<n by omega) hn;have w2:=CU (show Al (λk=>AG (f k)) i<n by omega) hn;show sel (ieq (Bl (f i)) 0) _ _=_;cases e1:ieq (Bl (f i)) 0 with
 | false=>rw [e1] at h; cases h
 | true =>
  show sel (Kz a0 (f i)) _ _=_;cases e2:Kz a0 (f i) with
  | false=>rw [e1,e2] at h; cases h
  | true =>
   show sel (A9 (f i)) (sel (AG (f i)) (some _) (some _)) (sel (AG (f i)) (some _) (some _))=some (Sum.inl (ofNat (match A9 (f i) with
    | true=>Al (λk=>A9 (f k)) i+1
    | false=>Al (λk=>A9 (f k)) i),ofNat (match AG (f i) with
    | true=>Al (λk=>AG (f k)) i+1
    | false=>Al (λk=>AG (f k)) i)))
   cases A9 (f i) <;> cases AG (f i) <;> simp only [sel,Qv,w1,w2] <;> rfl
theorem t52 (hK:BE a0=true) {i:Nat} (h:Ea a0 f i=true):(g52 a0 n f i (Qv f i)).sem=some (.inr (AdY a0 n f i)):=by
 unfold Ea at h;unfold AdY;rw [AcB hK] at h ⊢;show sel (ieq (Bl (f i)) 0) _ _=_;cases e1:ieq (Bl (f i)) 0 with
 | false=>rfl
 | true =>
  show sel (Kz a0 (f i)) _ _=_;cases e2:Kz a0 (f i) with
  | false=>rfl
  | true=>rw [e1,e2] at h; cases h
theorem AqN (hK:BE a0=true) (hn:n <= 4611686018427387904) (h:isN (AZ (Ea a0 f) n 0)=true):Cm (g52 a0 n f) (WO a0 n f) n 0 (0,0)=some (WO a0 n f (Jl n f,K8 n f)):=Py (acc:=Qv f) (λ_ hi=>c52 hK hn hi) (λ_ _=>t52 hK) h
theorem AoQ (hK:BE a0=true) (hn:n <= 4611686018427387904) (h:isN (AZ (Ea a0 f) n 0)=false):Cm (g52 a0 n f) (WO a0 n f) n 0 (0,0)=some (AdY a0 n f (tO (Ea a0 f) n)):=Px (acc:=Qv f) (λ_ hi=>c52 hK hn hi) (λ_ _=>t52 hK) h
theorem AqP (hK:BE a0=true) (hn:n <= 4611686018427387904) (h:isN (AZ (Ea a0 f) n 0)=false) (g:ieq (Ho a0 (f (tO (Ea a0 f) n))) 0=true):Cm (g52 a0 n f) (WO a0 n f) n 0 (0,0)=some (Aa3 a0 n f (tO (Ea a0 f) n) (Qv f (tO (Ea a0 f) n))):=by rw [AoQ hK hn h,AdY,g]; rfl
theorem AqO (hK:BE a0=true) (hn:n <= 4611686018427387904) (h:isN (AZ (Ea a0 f) n 0)=false) (g:ieq (Ho a0 (f (tO (Ea a0 f) n))) 0=false):Cm (g52 a0 n f) (WO a0 n f) n 0 (0,0)=some (Aa2 a0 n f (tO (Ea a0 f) n) (Qv f (tO (Ea a0 f) n))):=by rw [AoQ hK hn h,AdY,g]; rfl
theorem YQ (hn:n <= 4611686018427387904) {a:Int×Int} {i:Nat} (hi:i<n):(UX a0 n f i a).sem=sel (GK n f i) (some (.inr (KJ a0 n f i a))) (some (.inl a)):=by
 unfold UX GK;rw [OJ hi hn,show toN (ofNat ((i+1) % n))=(i+1) % n from rfl];cases ieq (f i).dst (f ((i+1) % n)).src <;> rfl
theorem AqM (hn:n <= 4611686018427387904) {a:Int×Int} (h:isN (AZ (GK n f) n 0)=true):Cm (UX a0 n f) (Pt a0 n f) n 0 a=some (Pt a0 n f a):=Py (acc:=λ_=>a) (x:=λi=>KJ a0 n f i a) (λi hi hq=>by rw [YQ hn hi,hq]; rfl) (λi hi hq=>by rw [YQ hn hi,hq]; rfl) h
theorem AqL (hn:n <= 4611686018427387904) {a:Int×Int} (h:isN (AZ (GK n f) n 0)=false):Cm (UX a0 n f) (Pt a0 n f) n 0 a=some (KJ a0 n f (tO (GK n f) n) a):=Px (acc:=λ_=>a) (x:=λi=>KJ a0 n f i a) (λi hi hq=>by rw [YQ hn hi,hq]; rfl) (λi hi hq=>by rw [YQ hn hi,hq]; rfl) h
theorem YP {a:(Nat->Int)×(Nat->Int)} {i:Nat}:(Y5 a0 n f i a).sem=sel (Be n a.2 (λi=>isW (f i)) 2 i) (some (.inr (KI a0 n f i a))) (some (.inl a)):=by
 show sel (isW (f i)) _ _=sel (Ak (isW (f i)) _) _ _;cases isW (f i) <;> rfl
theorem AqK {a:(Nat->Int)×(Nat->Int)} (h:isN (AZ (Be n a.2 (λi=>isW (f i)) 2) n 0)=true):Cm (Y5 a0 n f) (Pr a0 n f) n 0 a=some (Pr a0 n f a):=Py (acc:=λ_=>a) (x:=λi=>KI a0 n f i a) (λi _ hq=>by rw [YP,hq]; rfl) (λi _ hq=>by rw [YP,hq]; rfl) h
theorem AqJ {a:(Nat->Int)×(Nat->Int)} (h:isN (AZ (Be n a.2 (λi=>isW (f i)) 2) n 0)=false):Cm (Y5 a0 n f) (Pr a0 n f) n 0 a=some (KI a0 n f (tO (Be n a.2 (λi=>isW (f i)) 2) n) a):=Px (acc:=λ_=>a) (x:=λi=>KI a0 n f i a) (λi _ hq=>by rw [YP,hq]; rfl) (λi _ hq=>by rw [YP,hq]; rfl) h
theorem YO {a:(Nat->Int)×(Nat->Int)} {i:Nat}:(Y4 a0 n f i a).sem=sel (Be n a.1 (λ_=>true) 12 i) (some (.inr (KH a0 n f i a))) (some (.inl a)):=rfl
theorem AqH {a:(Nat->Int)×(Nat->Int)} (h:isN (AZ (Be n a.1 (λ_=>true) 12) n 0)=true):Cm (Y4 a0 n f) (Pq a0 n f) n 0 a=some (Pq a0 n f a):=Py (acc:=λ_=>a) (x:=λi=>KH a0 n f i a) (λi _ hq=>by rw [YO,hq]; rfl) (λi _ hq=>by rw [YO,hq]; rfl) h
theorem AqG {a:(Nat->Int)×(Nat->Int)} (h:isN (AZ (Be n a.1 (λ_=>true) 12) n 0)=false):Cm (Y4 a0 n f) (Pq a0 n f) n 0 a=some (KH a0 n f (tO (Be n a.1 (λ_=>true) 12) n) a):=Px (acc:=λ_=>a) (x:=λi=>KH a0 n f i a) (λi _ hq=>by rw [YO,hq]; rfl) (λi _ hq=>by rw [YO,hq]; rfl) h
end
def C52 (a0:Int) (n:Nat) (f:Nat->E6):AA:=.br (ilt (ofNat n) 2) (.leaf ((.tup [iV 40,iV 0]),[])) (.br (ilt 16 (ofNat n)) (.leaf ((.tup [iV 40,iV 0]),[])) (.br (isN (AZ (Ea a0 f) n 0)) (.br (isN (AZ (GK n f) n 0)) (.br (ilt (Jl n f) 2) (.leaf ((.tup [iV 42,iV 0]),[])) (.br (ilt (K8 n f) 2) (.leaf ((.tup [iV 43,iV 0]),[])) (.br (isN (AZ (Be n (pM n f) (λi=>isW (f i)) 2) n 0)) (.br (isN (AZ (Be n (pO n f) (λ_=>true) 12) n 0)) (.leaf ((.tup [iV 0,iV 0]),[])) (.leaf ((.tup [iV 45,nO (Be n (pO n f) (λ_=>true) 12) n]),[]))) (.leaf ((.tup [iV 44,nO (Be n (pM n f) (λi=>isW (f i)) 2) n]),[]))))) (.leaf ((.tup [iV 41,nO (GK n f) n]),[]))) (.br (ieq (Ho a0 (f (tO (Ea a0 f) n))) 0) (.leaf ((.tup [iV 5,nO (Ea a0 f) n]),[])) (.leaf ((.tup [iV 30,nO (Ea a0 f) n]),[])))))
theorem Ahm (a0:Int) (n:Nat) (f:Nat->E6):(C52 a0 n f).sem=some (.tup [iV (NA a0 n f).1,iV (NA a0 n f).2],[]):=by
 unfold C52 NA Ji Vw Xn crR nO tO;cases ilt (ofNat n) 2 with
 | true=>rfl
 | false =>
  cases ilt 16 (ofNat n) with
  | true=>rfl
  | false =>
   cases AZ (Ea a0 f) n 0 with
   | some t =>show sel (ieq (Ho a0 (f t)) 0) _ _=_;cases e:ieq (Ho a0 (f t)) 0 <;> simp only [e] <;> rfl
   | none =>
    cases AZ (GK n f) n 0 with
    | some t=>rfl
    | none =>
     show sel (ilt (Jl n f) 2) _ _=some (V.tup [iV (match ilt (Jl n f) 2,ilt (K8 n f) 2 with
      | true,_=>((42:Int),(0:Int))
      | false,true=>(43,0)
      | false,false=>_).1,iV (match ilt (Jl n f) 2,ilt (K8 n f) 2 with
      | true,_=>((42:Int),(0:Int))
      | false,true=>(43,0)
      | false,false=>_).2],[])
     cases ilt (Jl n f) 2 with
     | true=>rfl
     | false =>
      cases ilt (K8 n f) 2 with
      | true=>rfl
      | false =>
       cases AZ (Be n (A8 (λk=>AG (f k)) n) (λi=>isW (f i)) 2) n 0 with
       | some t=>rfl
       | none=>cases AZ (Be n (A8 (λk=>A9 (f k)) n) (λ_=>true) 12) n 0 <;> rfl
def Ai9 (a:Int) (C:AA):AA:=.br (ieq a 1) C (.br (ieq a 2) C (.leaf (.tup [iV 1,iV 0],[])))
theorem R2 {a:Int} {n:Nat} {f:Nat->E6} {C:AA} (h:C.sem=some (.tup [iV (NA a n f).1,iV (NA a n f).2],[])):(Ai9 a C).sem=some (.tup [iV (PI a n f).1,iV (PI a n f).2],[]):=by
 unfold Ai9 PI;cases ieq a 1 with
 | true=>exact h
 | false =>
  cases ieq a 2 with
  | true=>exact h
  | false=>rfl
theorem p49:As Tryz.prog Gl 107 Aap:=by
 refine Am A0 mixed Tryz.func107 (by kernel_rfl) (by kernel_rfl) λvs v h' h=>?_;unfold Aap at h;split at h
 ·rename_i a0 u
  obtain ⟨n,f,ha,h1⟩:=CG h;obtain ⟨hF,hq⟩:=Ad h1;have:=Aa hq;simp only [Prod.mk.injEq] at this;obtain ⟨rfl,rfl⟩:=this;have hn:n <= 4611686018427387904:=E9 (Ht hF);have hx:=Bd AeG OO (G:=Gl);have w:=λ(hK:BE a0=true)=>show DK (λa=>a) (C52 a0 n f) _ from .c (λh1=>.r 3 h1 <| .k eT <| .l) λh1=>.r 3 h1 <| .c (λh2=>.k h2 <| .l) λh2=>.k h2 <| .c (λh3=>.a (r52 (askL OO) a0 n f hn (j:=λ_=>.und) (AqN hK hn h3)) <| .c (λh4=>.a (AhG (askL OO) a0 n f hn (j:=λ_=>.und) (AqM (a:=Ap2 n f) hn h4)) <| .c (λh5=>.k h5 <| .l) λh5=>.k h5 <| .c (λh6=>.k h6 <| .l) λh6=>.k h6 <| .k (eL n) <| .k hF <| .k (eL n) <| .k hF <| .c (λh7=>.a (AhF (askL OO) a0 n f hn (j:=λ_=>.und) (AqK (a:=AgW n f) h7)) <| .c (λh8=>.a (AhE (askL OO) a0 n f hn (j:=λ_=>.und) (AqH (a:=AgW n f) h8)) <| .l) λh8=>.a (AhE (askL OO) a0 n f hn (j:=λ_=>.und) (AqG (a:=AgW n f) h8)) <| .l) λh7=>.a (AhF (askL OO) a0 n f hn (j:=λ_=>.und) (AqJ (a:=AgW n f) h7)) <| .l) λh4=>.a (AhG (askL OO) a0 n f hn (j:=λ_=>.und) (AqL (a:=Ap2 n f) hn h4)) <| .l) λh3=>.c (λg=>.a (r52 (askL OO) a0 n f hn (j:=λ_=>.und) (AqP hK hn h3 g)) .l) λg=>.a (r52 (askL OO) a0 n f hn (j:=λ_=>.und) (AqO hK hn h3 g)) .l
  exact ⟨_,cxA Gl Zm OO,_,Xu ha,rfl,hx.1,hx.2,DK.of (R2 (Ahm a0 n f)) (.c (λh1=>.k (eN h1) <| .k (eN h1) <| .k (eN h1) <| .k eF (w (kn1 h1))) λh1=>.k (eN h1) <| .k (eN h1) <| .k (eN h1) <| .c (λh2=>.k (eN h2) (w (kn2 h2))) λh2=>.k (eN h2) .l) (by kernel_rfl),Aw.refl _⟩
 ·cases h
noncomputable def AmM:AE:=(169,AlG)::(170,Xk)::(175,Ww)::(174,Xj)::[]
theorem AeH:Ar Tryz.prog Gl AmM:=.cons p86 <| .cons p87 <| .cons p92 <| .cons p91 .nil
def Apc (a:Int) (n:Nat) (f:Nat->E6):Int:=(Ji a n f).1
def AqR (a:Int) (n:Nat) (f:Nat->E6):Int:=(Ji a n f).2
def crI (n:Nat) (l:Nat->Int) (c:Nat->Bool) (q:Int):Int:=(crR n l c q).1
def crB (n:Nat) (l:Nat->Int) (c:Nat->Bool) (q:Int):Bool:=(crR n l c q).2
theorem U2 (p:Nat->Bool) (n:Nat) (hn:n <= 4611686018427387904):okP n (A8 p n)=true:=AO.2 λi hi=>by
 unfold A8;cases decide (i<n) with
 | false=>rfl
 | true =>
  cases decide (Al p i=Al p n) with
  | true=>rfl
  | false =>have:=BI p i;exact Te (by omega)
def C84 (a0:Int) (n:Nat) (f:Nat->E6):AA:=.br (ilt (ofNat n) 2) (.leaf ((.tup [iV 40,iV 0]),[])) (.br (ilt 16 (ofNat n)) (.leaf ((.tup [iV 40,iV 0]),[])) (.br (ieq (Apc a0 n f) 0) (.br (ilt (Jl n f) 2) (.leaf ((.tup [iV 42,iV 0]),[])) (.br (ilt (K8 n f) 2) (.leaf ((.tup [iV 43,iV 0]),[])) (.br (crB n (A8 (λk=>AG (f k)) n) (λi=>isW (f i)) 2) (.leaf ((.tup [iV 44,iV (crI n (A8 (λk=>AG (f k)) n) (λi=>isW (f i)) 2)]),[])) (.br (crB n (A8 (λk=>A9 (f k)) n) (λ_=>true) 12) (.leaf ((.tup [iV 45,iV (crI n (A8 (λk=>A9 (f k)) n) (λ_=>true) 12)]),[])) (.leaf ((.tup [iV 0,iV 0]),[])))))) (.leaf ((.tup [iV (Apc a0 n f),iV (AqR a0 n f)]),[]))))
theorem Ahi (a0:Int) (n:Nat) (f:Nat->E6):(C84 a0 n f).sem=some (.tup [iV (NA a0 n f).1,iV (NA a0 n f).2],[]):=by
 unfold C84 NA Vw Xn;cases ilt (ofNat n) 2 with
 | true=>rfl
 | false =>
  cases ilt 16 (ofNat n) with
  | true=>rfl
  | false =>
   show sel (ieq (Ji a0 n f).1 0) _ _=_;cases e:ieq (Ji a0 n f).1 0 with
   | false=>rfl
   | true =>
    show sel (ilt (Jl n f) 2) _ _=some (V.tup [iV (match ilt (Jl n f) 2,ilt (K8 n f) 2 with
     | true,_=>((42:Int),(0:Int))
     | false,true=>(43,0)
     | false,false=>_).1,iV (match ilt (Jl n f) 2,ilt (K8 n f) 2 with
     | true,_=>((42:Int),(0:Int))
     | false,true=>(43,0)
     | false,false=>_).2],[])
    cases ilt (Jl n f) 2 with
    | true=>rfl
    | false =>
     cases ilt (K8 n f) 2 with
     | true=>rfl
     | false =>
      show sel (crR n (A8 (λk=>AG (f k)) n) (λi=>isW (f i)) 2).2 (some (V.tup [iV 44,iV (crR n (A8 (λk=>AG (f k)) n) (λi=>isW (f i)) 2).1],[])) (sel (crR n (A8 (λk=>A9 (f k)) n) (λ_=>true) 12).2 (some (V.tup [iV 45,iV (crR n (A8 (λk=>A9 (f k)) n) (λ_=>true) 12).1],[])) _)=_;cases crR n (A8 (λk=>AG (f k)) n) (λi=>isW (f i)) 2 with
      | mk x b =>
       cases b with
       | true=>rfl
       | false =>
        cases crR n (A8 (λk=>A9 (f k)) n) (λ_=>true) 12 with
        | mk x b=>cases b <;> rfl
theorem p48:As Tryz.prog Gl 138 Aap:=by
 refine Am A0 mixed Tryz.func138 (by kernel_rfl) (by kernel_rfl) λvs v h' h=>?_;unfold Aap at h;split at h
 ·rename_i a0 u
  obtain ⟨n,f,ha,h1⟩:=CG h;obtain ⟨hF,hq⟩:=Ad h1;have:=Aa hq;simp only [Prod.mk.injEq] at this;obtain ⟨rfl,rfl⟩:=this;have hn:n <= 4611686018427387904:=E9 (Ht hF);have hk:EL 8 (ofNat n) (ofNat n)=true:=Aq6 hF;have hx:=Bs AeH [] (G:=Gl);have w:DK (λa=>a) (C84 a0 n f) _:=.c (λh1=>.r 4 h1 <| .k eT <| .l) λh1=>.r 4 h1 <| .c (λh2=>.k h2 <| .l) λh2=>.k h2 <| .k (eL n) <| .k hF <| .c (λh3=>.k (eN h3) <| .k (eL n) <| .k (decide_eq_true hn) <| .c (λh4=>.k h4 <| .l) λh4=>.k h4 <| .k (eL n) <| .k (decide_eq_true hn) <| .c (λh5=>.k h5 <| .l) λh5=>.k h5 <| .k (eL n) <| .k hk <| .r 2 (eL n) <| .k (eJ n) <| .k (decide_eq_true hn) <| .k (U2 (λk=>AG (f k)) n hn) <| .c (λh6=>.k h6 <| .l) λh6=>.k h6 <| .k (eL n) <| .k hk <| .k (eL n) <| .k (decide_eq_true hn) <| .k (U2 (λk=>A9 (f k)) n hn) <| .c (λh7=>.k h7 <| .l) λh7=>.k h7 <| .l) λh3=>.k (eN h3) <| .l
  exact ⟨_,AT Gl AmM [],_,Xu ha,rfl,hx.1,hx.2,DK.of (R2 (Ahi a0 n f)) (.c (λh1=>.k (eN h1) <| .k (eN h1) <| .k (eN h1) <| .k eF w) λh1=>.k (eN h1) <| .k (eN h1) <| .k (eN h1) <| .c (λh2=>.k (eN h2) w) λh2=>.k (eN h2) .l) (by kernel_rfl),Aw.refl _⟩
 ·cases h
end Go.Proofs.YtkbafjceglhjhaaGreatDoor.Ed
namespace Go.Proofs.YtkbafjceglhjhaaGreatDoor.Ed
open Go.Sy
def Hw (a:Int) (n:Nat) (f:Nat->E6):Int:=(PI a n f).1
def AlN (a:Int) (n:Nat) (f:Nat->E6):Int:=(PI a n f).2
end Go.Proofs.YtkbafjceglhjhaaGreatDoor.Ed
namespace Go.Proofs.YtkbafjceglhjhaaGreatDoor.Ed
open Go.Sy
open Int (ofNat)
theorem Af9 {K a b:Nat} (c:Nat) (h:a % K=b % K):(a+c) % K=(b+c) % K:=by rw [Nat.add_mod,h,<- Nat.add_mod]
theorem Nl {K a b c:Nat} (hab:a <= b) (h:(a+c) % K=(b+c) % K):a % K=b % K:=by
 have h1:=Nat.sub_mod_eq_zero_of_mod_eq h.symm;rw [show b+c-(a+c)=b-a by omega] at h1;have h2:(a+(b-a)) % K=a % K:=by rw [Nat.add_mod,h1,Nat.add_zero,Nat.mod_mod]
 rw [show a+(b-a)=b by omega] at h2;exact h2.symm
theorem W3 {K a b c:Nat} (h:(a+c) % K=(b+c) % K):a % K=b % K:=by
 rcases Nat.le_total a b with h1 | h1
 ·exact Nl h1 h
 ·exact (Nl h1 h.symm).symm
theorem LN (p:Nat->Bool) (a:Nat):∀ b,Al p (a+b)=Al p a+Al (λi=>p (a+i)) b
 | 0=>rfl
 | b+1=>by
  rw [show a+(b+1)=a+b+1 by omega,Al,Al,LN p a b];cases p (a+b) <;> rfl
theorem Rw (p:Nat->Bool) {n k j:Nat} (hk:k<n) (hj:j <= n):Al p k+Al (λi=>p ((k+i) % n)) j=if k+j<n then Al p (k+j) else Al p n+Al p (k+j-n):=by
 split
 ·rename_i h
  rw [LN p k j,CE (q:=λi=>p ((k+i) % n)) (p:=λi=>p (k+i)) j λi hi=>by rw [Nat.mod_eq_of_lt (by omega)]]
 ·rename_i h
  have e:j=(n-k)+(k+j-n):=by omega
  have h1:=LN (λi=>p ((k+i) % n)) (n-k) (k+j-n);rw [<- e] at h1;rw [h1,CE (q:=λi=>p ((k+i) % n)) (p:=λi=>p (k+i)) (n-k) λi hi=>by rw [Nat.mod_eq_of_lt (by omega)],
   CE (q:=λi=>p ((k+(n-k+i)) % n)) (p:=p) (k+j-n) λi hi=>by rw [show k+(n-k+i)=i+n by omega,Nat.add_mod_right,Nat.mod_eq_of_lt (by omega)]]
  have h2:=LN p k (n-k);rw [show k+(n-k)=n by omega] at h2;omega
theorem Ha (p:Nat->Bool) {n k:Nat} (hk:k<n):Al (λi=>p ((k+i) % n)) n=Al p n:=by
 have h:=Rw p hk (Nat.le_refl n);rw [if_neg (by omega),show k+n-n=k by omega] at h;omega
theorem J4 (p:Nat->Bool) {n i:Nat} (hi:i<n) (hK:0<Al p n):A8 p n i=ofNat (Al p i % Al p n):=by
 unfold A8;rw [decide_eq_true hi];have:=Ba p (show i <= n by omega);by_cases h:Al p i=Al p n
 ·rw [decide_eq_true h,h,Nat.mod_self]
  rfl
 ·rw [decide_eq_false h,Nat.mod_eq_of_lt (by omega)]
  rfl
theorem Uy (p:Nat->Bool) {n k i j:Nat} (hk:k<n) (hK:0<Al p n) (hi:i<n) (hj:j<n) :
  A8 (λi=>p ((k+i) % n)) n i=A8 (λi=>p ((k+i) % n)) n j↔A8 p n ((k+i) % n)=A8 p n ((k+j) % n):=by
 have hn:0<n:=by omega
 have hT:=Ha p hk;have key:∀ i,i<n->(Al p k+Al (λi=>p ((k+i) % n)) i) % Al p n=Al p ((k+i) % n) % Al p n:=λi hi=>by
  rw [Rw p hk (Nat.le_of_lt hi)];split
  ·rename_i h
   rw [Nat.mod_eq_of_lt h]
  ·rename_i h
   rw [Nat.add_mod_left,show (k+i) % n=k+i-n by rw [show k+i=k+i-n+n by omega,Nat.add_mod_right,Nat.mod_eq_of_lt (by omega)]; omega]
 rw [J4 _ hi (by rw [hT]; exact hK),J4 _ hj (by rw [hT]; exact hK),J4 p (Nat.mod_lt _ hn) hK,J4 p (Nat.mod_lt _ hn) hK,hT,<- key i hi,<- key j hj];constructor
 ·intro h
  have h:=Int.ofNat.inj h;have:=Af9 (Al p k) h;rw [Nat.add_comm _ (Al p k),Nat.add_comm _ (Al p k)] at this;rw [this]
 ·intro h
  have h:=Int.ofNat.inj h;rw [Nat.add_comm (Al p k),Nat.add_comm (Al p k)] at h;rw [W3 h]
theorem Dm {q:Nat->Bool}:∀ {d i:Nat},AZ q d i=none↔∀ k,i <= k->k<i+d->q k=false
 | 0,i=>⟨λ_ k h1 h2=>by omega,λ_=>rfl⟩
 | d+1,i=>by
  cases hq:q i with
  | true =>rw [FC hq];refine ⟨λh=>(by cases h),λh=>?_⟩;have:=h i (Nat.le_refl i) (by omega);rw [hq] at this;cases this
  | false =>
   rw [FD hq,Dm];refine ⟨λh k h1 h2=>?_,λh k h1 h2=>h k (by omega) (by omega)⟩;by_cases e:k=i
   ·rw [e]; exact hq
   ·exact h k (by omega) (by omega)
structure IsCycle (a:Int) (n:Nat) (f:Nat->E6):Prop where
 arch:ieq a 1=true ∨ ieq a 2=true
 lo:2 <= n
 hi:n <= 16
 legal:∀ i,i<n->Ea a f i=false
 meets:∀ i,i<n->GK n f i=false
 outer:2 <= Al (λk=>A9 (f k)) n
 moves:2 <= Al (λk=>AG (f k)) n
 writes:∀ i,i<n->Be n (A8 (λk=>AG (f k)) n) (λi=>isW (f i)) 2 i=false
 crowd:∀ i,i<n->Be n (A8 (λk=>A9 (f k)) n) (λ_=>true) 12 i=false
theorem Vs {n:Nat} {l:Nat->Int} {c:Nat->Bool} {q:Int} (h:∀ i,i<n->Be n l c q i=false):crR n l c q=(0,false):=by
 unfold crR;rw [Dm.2 λk _ h2=>h k (by omega)]
theorem Rr {n:Nat} {l:Nat->Int} {c:Nat->Bool} {q:Int} (h:(crR n l c q).2=false):∀ i,i<n->Be n l c q i=false:=by
 unfold crR at h;cases hc:AZ (Be n l c q) n 0 with
 | some t=>rw [hc] at h; cases h
 | none=>exact λi hi=>Dm.1 hc i (Nat.zero_le i) (by omega)
theorem IsCycle.ok {a:Int} {n:Nat} {f:Nat->E6} (h:IsCycle a n f):PI a n f=(0,0):=by
 have e1:Ji a n f=(0,0):=by
  unfold Ji;rw [Dm.2 λk _ h2=>h.legal k (by omega)];show (match AZ (GK n f) n 0 with | some t=>((41:Int),ofNat t) | none=>(0,0))=(0,0)
  rw [Dm.2 λk _ h2=>h.meets k (by omega)]
 have c1:ilt (ofNat n) 2=false:=by rw [show (2:Int)=ofNat 2 from rfl,DI,decide_eq_false (by have:=h.lo; omega)]
 have c2:ilt 16 (ofNat n)=false:=by rw [show (16:Int)=ofNat 16 from rfl,DI,decide_eq_false (by have:=h.hi; omega)]
 have c3:ilt (Jl n f) 2=false:=by unfold Jl; rw [show (2:Int)=ofNat 2 from rfl,DI,decide_eq_false (by have:=h.outer; omega)]
 have c4:ilt (K8 n f) 2=false:=by unfold K8; rw [show (2:Int)=ofNat 2 from rfl,DI,decide_eq_false (by have:=h.moves; omega)]
 rw [YM h.arch];unfold NA;rw [c1,c2,e1];show Vw n f=(0,0);unfold Vw;rw [c3,c4];show Xn n f=(0,0);unfold Xn;rw [Vs h.writes,Vs h.crowd]
theorem Bt {a:Int} {n:Nat} {f:Nat->E6} (h:ieq (Hw a n f) 0=true):IsCycle a n f:=by
 have h:=Cg h;unfold Hw at h;have ha:ieq a 1=true ∨ ieq a 2=true:=by
  cases ca:ieq a 1 with
  | true=>exact .inl rfl
  | false =>
   cases cb:ieq a 2 with
   | true=>exact .inr rfl
   | false =>unfold PI at h;rw [ca,cb] at h;cases h
 rw [YM ha] at h;unfold NA at h;cases c1:ilt (ofNat n) 2 with
 | true=>rw [c1] at h; cases h
 | false =>
  cases c2:ilt 16 (ofNat n) with
  | true=>rw [c1,c2] at h; cases h
  | false =>
   rw [c1,c2] at h;have h:(match Ji a n f,ieq (Ji a n f).1 0 with | r,false=>r | _,true=>Vw n f).1=0:=h
   cases c3:ieq (Ji a n f).1 0 with
   | false =>rw [c3] at h;have h:(Ji a n f).1=0:=h;rw [h] at c3;cases c3
   | true =>
    rw [c3] at h;have h:(Vw n f).1=0:=h;have c3:=Cg c3;unfold Vw at h;cases c4:ilt (Jl n f) 2 with
    | true=>rw [c4] at h; cases h
    | false =>
     cases c5:ilt (K8 n f) 2 with
     | true=>rw [c4,c5] at h; cases h
     | false =>
      rw [c4,c5] at h;have h:(Xn n f).1=0:=h;unfold Xn at h;cases c6:(crR n (A8 (λk=>AG (f k)) n) (λi=>isW (f i)) 2).2 with
      | true =>rw [show crR n (A8 (λk=>AG (f k)) n) (λi=>isW (f i)) 2=((crR n (A8 (λk=>AG (f k)) n) (λi=>isW (f i)) 2).1,true) from Prod.ext rfl c6] at h;cases h
      | false =>
       rw [show crR n (A8 (λk=>AG (f k)) n) (λi=>isW (f i)) 2=((crR n (A8 (λk=>AG (f k)) n) (λi=>isW (f i)) 2).1,false) from Prod.ext rfl c6] at h;cases c7:(crR n (A8 (λk=>A9 (f k)) n) (λ_=>true) 12).2 with
       | true =>rw [show crR n (A8 (λk=>A9 (f k)) n) (λ_=>true) 12=((crR n (A8 (λk=>A9 (f k)) n) (λ_=>true) 12).1,true) from Prod.ext rfl c7] at h;cases h
       | false =>
        have e1:AZ (Ea a f) n 0=none∧AZ (GK n f) n 0=none:=by
         unfold Ji at c3;cases d1:AZ (Ea a f) n 0 with
         | some t =>
          rw [d1] at c3;cases d2:ieq (Ho a (f t)) 0 with
          | true=>simp only [d2] at c3; cases c3
          | false=>simp only [d2] at c3; cases c3
         | none =>
          rw [d1] at c3;cases d2:AZ (GK n f) n 0 with
          | some t=>rw [d2] at c3; cases c3
          | none=>exact ⟨rfl,rfl⟩
        rw [show (2:Int)=ofNat 2 from rfl,DI] at c1;rw [show (16:Int)=ofNat 16 from rfl,DI] at c2;unfold Jl at c4;rw [show (2:Int)=ofNat 2 from rfl,DI] at c4;unfold K8 at c5;rw [show (2:Int)=ofNat 2 from rfl,DI] at c5;have c1:=of_decide_eq_false c1;have c2:=of_decide_eq_false c2;have c4:=of_decide_eq_false c4;have c5:=of_decide_eq_false c5;exact ⟨ha,by omega,by omega,λi hi=>Dm.1 e1.1 i (Nat.zero_le i) (by omega),λi hi=>Dm.1 e1.2 i (Nat.zero_le i) (by omega),by omega,by omega,Rr c6,Rr c7⟩
theorem ID (p c:Nat->Bool) {n k:Nat} (hk:k<n) (hK:0<Al p n) (q:Int) {i:Nat} (hi:i<n) :
  Be n (A8 (λi=>p ((k+i) % n)) n) (λi=>c ((k+i) % n)) q i=Be n (A8 p n) c q ((k+i) % n):=by
 unfold Be MJ;rw [CE (q:=CP (A8 (λi=>p ((k+i) % n)) n) (λi=>c ((k+i) % n)) (A8 (λi=>p ((k+i) % n)) n i)) (p:=λj=>CP (A8 p n) c (A8 p n ((k+i) % n)) ((k+j) % n)) n λj hj=>by
  unfold CP;have h1:=Uy p hk hK hj hi;by_cases e:A8 (λi=>p ((k+i) % n)) n j=A8 (λi=>p ((k+i) % n)) n i
  ·rw [e,h1.1 e,SN,SN]
  ·rw [show ieq (A8 (λi=>p ((k+i) % n)) n j) (A8 (λi=>p ((k+i) % n)) n i)=false by simp [ieq,e],show ieq (A8 p n ((k+j) % n)) (A8 p n ((k+i) % n))=false by
    have:¬ A8 p n ((k+j) % n)=A8 p n ((k+i) % n):=λh=>e (h1.2 h);simp [ieq,this]]]
 rw [Ha (CP (A8 p n) c (A8 p n ((k+i) % n))) hk]
theorem IsCycle.turned {a:Int} {n:Nat} {f:Nat->E6} (h:IsCycle a n f) {k:Nat} (hk:k<n):IsCycle a n λi=>f ((k+i) % n):=by
 have hn:0<n:=by omega
 have ho:=h.outer;have hm:=h.moves;refine ⟨h.arch,h.lo,h.hi,λi hi=>h.legal _ (Nat.mod_lt _ hn),λi hi=>?_,?_,?_,λi hi=>?_,λi hi=>?_⟩
 ·have:=h.meets ((k+i) % n) (Nat.mod_lt _ hn)
  unfold GK at this ⊢;rw [Nat.mod_add_mod] at this;show AV (ieq (f ((k+i) % n)).dst (f ((k+(i+1) % n) % n)).src)=false;rw [Nat.add_mod_mod,<- Nat.add_assoc];exact this
 ·show 2 <= Al (λi=>(λk=>A9 (f k)) ((k+i) % n)) n
  rw [Ha (λk=>A9 (f k)) hk];exact ho
 ·show 2 <= Al (λi=>(λk=>AG (f k)) ((k+i) % n)) n
  rw [Ha (λk=>AG (f k)) hk];exact hm
 ·show Be n (A8 (λi=>(λk=>AG (f k)) ((k+i) % n)) n) (λi=>(λk=>isW (f k)) ((k+i) % n)) 2 i=false
  rw [ID (λk=>AG (f k)) (λk=>isW (f k)) hk (by omega) 2 hi];exact h.writes _ (Nat.mod_lt _ hn)
 ·show Be n (A8 (λi=>(λk=>A9 (f k)) ((k+i) % n)) n) (λi=>(λ_=>true) ((k+i) % n)) 12 i=false
  rw [ID (λk=>A9 (f k)) (λ_=>true) hk (by omega) 12 hi];exact h.crowd _ (Nat.mod_lt _ hn)
theorem IsCycle.may {a:Int} {n:Nat} {f:Nat->E6} (h:IsCycle a n f):EM n f=true:=F2.2 λi hi=>by
 have h1:=h.legal i hi;unfold Ea at h1;cases c:ieq (Ho a (f i)) 0 with
 | false=>rw [c] at h1; cases h1
 | true =>
  have c:=Cg c;rcases h.arch with ha | ha
  ·rw [Cg ha] at c; exact c
  ·rw [Cg ha] at c; exact c
end Go.Proofs.YtkbafjceglhjhaaGreatDoor.Ed
