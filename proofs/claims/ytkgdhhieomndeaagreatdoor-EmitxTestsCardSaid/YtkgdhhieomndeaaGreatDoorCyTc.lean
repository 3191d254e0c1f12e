/-
  Check, the program's and the document's: one answer. No conditions.
-/
import Derived.Test.YtkgdhhieomndeaaGreatDoorEdX
import Derived.Test.YtkgdhhieomndeaaGreatDoorEdY
import Derived.Test.YtkgdhhieomndeaaGreatDoorCyT
namespace Go.Proofs.YtkgdhhieomndeaaGreatDoor.Ed
open Go.Sy
open Int (ofNat)
noncomputable def tb49:AP:=(76,BI λe=>iV (Bc e))::(77,ap2 gI toE λa e=>out (RA a e))::(78,BI λe=>bV (AK e))::(79,BI λe=>bV (AJ e))::(80,Ru)::(81,Rt)::(82,AcG)::[]
theorem tb49_ok:Av Tryz.prog Gl tb49:=.cons p29 <| .cons p33 <| .cons p60 <| .cons p61 <| .cons p94 <| .cons p95 <| .cons p96 .nil
def Is (n:Nat) (f:Nat->E6):Int:=ofNat (An (λk=>AK (f k)) n)
def JJ (n:Nat) (f:Nat->E6):Int:=ofNat (An (λk=>AJ (f k)) n)
def Wr (n:Nat) (f:Nat->E6):Int×Int :=
 match crR n (AG (λk=>AJ (f k)) n) (λi=>isW (f i)) 2 with
 | (i,true)=>(44,i)
 | (_,false)=>match crR n (AG (λk=>AK (f k)) n) (λ_=>true) 12 with
   | (i,true)=>(45,i)
   | (_,false)=>(0,0)
def Uq (n:Nat) (f:Nat->E6):Int×Int :=
 match ilt (Is n f) 2,ilt (JJ n f) 2 with
 | true,_=>(42,0)
 | false,true=>(43,0)
 | false,false=>Wr n f
def MN (a:Int) (n:Nat) (f:Nat->E6):Int×Int :=
 match ilt (ofNat n) 2,ilt 16 (ofNat n) with
 | true,_=>(40,0)
 | false,true=>(40,0)
 | false,false=>match Ir a n f,ieq (Ir a n f).1 0 with
  | r,false=>r
  | _,true=>Uq n f
def OU (a:Int) (n:Nat) (f:Nat->E6):Int×Int :=
 match ieq a 1,ieq a 2 with
 | false,false=>(1,0)
 | _,_=>MN a n f
def MM:List V->AR
 | [.val (.int .i64 a),v]=>apL v λn f=>.br (BF n) (out (.tup [iV (OU a n f).1,iV (OU a n f).2])) .fail
 | _=>.fail
theorem XQ {a:Int} {n:Nat} {f:Nat->E6} (h:ieq a 1=true ∨ ieq a 2=true):OU a n f=MN a n f:=by
 unfold OU;rcases h with h | h
 ·rw [h]
 ·rw [h]
  cases ieq a 1 <;> rfl
theorem Ao8 {n:Nat} (h:BF n=true):DA 8 (ofNat n) (ofNat n)=true:=by
 have:=JE h;simp only [DA,Bool.and_eq_true,decide_eq_true_eq,Int.ofNat_eq_natCast];omega
theorem AiU {i n:Nat} (h:i<n) (hn:n <= 4611686018427387904):Al (ile 0 (Ag (wr .i64 (Af (ofNat i) 1)) (ofNat n))) (ilt (Ag (wr .i64 (Af (ofNat i) 1)) (ofNat n)) (ofNat n))=true:=by
 rw [Od h hn];exact Ao (Nat.mod_lt _ (by omega))
def Amm:Lp:=⟨bmK 133 0 [0,1,4,5,6,7,8,9],0,bmK 133 0 [1,4,5,6,7,8],0,4611686018427387905⟩
def S52 (a0:Int) (n:Nat) (f:Nat->E6) (c:Int) (a:Int×Int) (j:Nat->V):St:=⟨jsV 133 0 j [(0,iV a0),(1,.sl 6 n (λi=>eV (f i))),(4,iV 0),(5,iV 0),(6,nV n),(7,iV a.1),(8,iV a.2),(9,iV c)],[]⟩
noncomputable def B52 (L:LT):St->T (Ex×St):=λst=>A7 tab ⟨Ap tb49,L,Gl⟩ (Ar Tryz.f52 0) 0 st
def Zy (a0:Int) (n:Nat) (f:Nat->E6) (i:Nat) (a:Int×Int):Ex×St:=(.rt,⟨jsV 133 0 Aa [(1,.sl 6 n (λi=>eV (f i))),(4,iV 5),(5,nV i),(6,nV n),(7,iV a.1),(8,iV a.2)],[]⟩)
def Zx (a0:Int) (n:Nat) (f:Nat->E6) (i:Nat) (a:Int×Int):Ex×St:=(.rt,⟨jsV 133 0 Aa [(1,.sl 6 n (λi=>eV (f i))),(4,iV 30),(5,nV i),(6,nV n),(7,iV a.1),(8,iV a.2)],[]⟩)
def g52 (a0:Int) (n:Nat) (f:Nat->E6) (i:Nat) (a:Int×Int):T ((Int×Int) ⊕ (Ex×St)):=.br (ieq (Bc (f i)) 0) (.br (MI a0 (f i)) (.br (AK (f i)) (.br (AJ (f i)) (.leaf (.inl ((wr .i64 (Af a.1 1)),wr .i64 (Af a.2 1)))) (.leaf (.inl ((wr .i64 (Af a.1 1)),a.2)))) (.br (AJ (f i)) (.leaf (.inl (a.1,wr .i64 (Af a.2 1)))) (.leaf (.inl (a.1,a.2))))) (.leaf (.inr (Zy a0 n f i a)))) (.leaf (.inr (Zx a0 n f i a)))
def VO (a0:Int) (n:Nat) (f:Nat->E6) (a:Int×Int):Ex×St:=(.ex 0,⟨jsV 133 0 Aa [(1,.sl 6 n (λi=>eV (f i))),(4,iV 0),(5,iV 0),(6,nV n),(7,iV a.1),(8,iV a.2)],[]⟩)
theorem r52 (L:LT) (a0:Int) (n:Nat) (f:Nat->E6)  (hn:n <= 4611686018427387904) {e:Ex×St} {a:Int×Int} {j:Nat->V} (h:Cy (g52 a0 n f) (VO a0 n f) n 0 a=some e):(A3 (B52 L) Amm 4611686018427387905 (S52 a0 n f 0 a j)).sem=some (exR e) :=
 Cd Dx hn (λi a j r hi h=>DK.ok (L:=goR (S52 a0 n f) exR i) (.k (ofNat_lt hi) <| .k (Ao hi) <| .c (λh1=>.k (eN h1) <| .k (Ao hi) <| .c (λh2=>.k (eN h2) <| .k (Ao hi) <| .c (λh3=>.k h3 <| .k (Ao hi) <| .c (λh4=>.k h4 <| .l) λh4=>.k h4 <| .l) λh3=>.k h3 <| .k (Ao hi) <| .c (λh5=>.k h5 <| .l) λh5=>.k h5 <| .l) λh2=>.k (eN h2) <| .l) λh1=>.k (eN h1) <| .l) (by kernel_rfl) h) (λa j=>DK.ok (C:=.leaf (VO a0 n f a)) (L:=exR) (.k (A1 (Nat.le_refl n)) .l) (by kernel_rfl) rfl) (Nat.zero_add _).symm (Nat.lt_succ_of_le hn) h
def Abi:Lp:=⟨bmK 133 0 [1,4,5,6,7,8,12],0,bmK 133 0 [1,4,5,6,7,8],0,4611686018427387905⟩
def AgL (a0:Int) (n:Nat) (f:Nat->E6) (c:Int) (a:Int×Int) (j:Nat->V):St:=⟨jsV 133 0 j [(1,.sl 6 n (λi=>eV (f i))),(4,iV 0),(5,iV 0),(6,nV n),(7,iV a.1),(8,iV a.2),(12,iV c)],[]⟩
noncomputable def Anm (L:LT):St->T (Ex×St):=λst=>A7 tab ⟨Ap tb49,L,Gl⟩ (Ar Tryz.f52 2) 2 st
def JZ (a0:Int) (n:Nat) (f:Nat->E6) (i:Nat) (a:Int×Int):Ex×St:=(.rt,⟨jsV 133 0 Aa [(1,.sl 6 n (λi=>eV (f i))),(4,iV 41),(5,nV i),(6,nV n),(7,iV a.1),(8,iV a.2)],[]⟩)
def TP (a0:Int) (n:Nat) (f:Nat->E6) (i:Nat) (a:Int×Int):T ((Int×Int) ⊕ (Ex×St)):=.br (ieq (f i).dst (f (toN (Ag (wr .i64 (Af (ofNat i) 1)) (ofNat n)))).src) (.leaf (.inl (a.1,a.2))) (.leaf (.inr (JZ a0 n f i a)))
def OA (a0:Int) (n:Nat) (f:Nat->E6) (a:Int×Int):Ex×St:=(.ex 2,⟨jsV 133 0 Aa [(1,.sl 6 n (λi=>eV (f i))),(4,iV 0),(5,iV 0),(6,nV n),(7,iV a.1),(8,iV a.2)],[]⟩)
theorem Agi (L:LT) (a0:Int) (n:Nat) (f:Nat->E6)  (hn:n <= 4611686018427387904) {e:Ex×St} {a:Int×Int} {j:Nat->V} (h:Cy (TP a0 n f) (OA a0 n f) n 0 a=some e):(A3 (Anm L) Abi 4611686018427387905 (AgL a0 n f 0 a j)).sem=some (exR e) :=
 Cd Dx hn (λi a j r hi h=>DK.ok (L:=goR (AgL a0 n f) exR i) (.k (ofNat_lt hi) <| .k (Ao hi) <| .k (V5 hi) <| .k (AiU hi hn) <| .c (λh1=>.k (eN h1) <| .l) λh1=>.k (eN h1) <| .l) (by kernel_rfl) h) (λa j=>DK.ok (C:=.leaf (OA a0 n f a)) (L:=exR) (.k (A1 (Nat.le_refl n)) .l) (by kernel_rfl) rfl) (Nat.zero_add _).symm (Nat.lt_succ_of_le hn) h
def Abh:Lp:=⟨bmK 133 0 [1,4,5,6,13,14,15],2,bmK 133 0 [1,4,5,6,13],2,4611686018427387905⟩
def AgK (a0:Int) (n:Nat) (f:Nat->E6) (c:Int) (a:(Nat->Int)×(Nat->Int)) (j:Nat->V):St:=⟨jsV 133 0 j [(1,.sl 6 n (λi=>eV (f i))),(4,iV 0),(5,iV 0),(6,nV n),(13,.ref 0),(14,.ref 1),(15,iV c)],[.row 3 1 n (λk=>iV (a.1 k)),.row 3 1 n (λk=>iV (a.2 k))]⟩
noncomputable def Anl (L:LT):St->T (Ex×St):=λst=>A7 tab ⟨Ap tb49,L,Gl⟩ (Ar Tryz.f52 4) 4 st
def JY (a0:Int) (n:Nat) (f:Nat->E6) (i:Nat) (a:(Nat->Int)×(Nat->Int)):Ex×St:=(.rt,⟨jsV 133 0 Aa [(1,.sl 6 n (λi=>eV (f i))),(4,iV 44),(5,nV i),(6,nV n),(13,.ref 0)],[.row 3 1 n (λk=>iV (a.1 k)),.row 3 1 n (λk=>iV (a.2 k))]⟩)
def X4 (a0:Int) (n:Nat) (f:Nat->E6) (i:Nat) (a:(Nat->Int)×(Nat->Int)):T (((Nat->Int)×(Nat->Int)) ⊕ (Ex×St)):=.br (ieq (f i).src 2) (.br (ilt 2 (OT n a.2 (λi=>bor (A6 true) (isW (f i))) (a.2 i))) (.leaf (.inr (JY a0 n f i a))) (.leaf (.inl (a.1,a.2)))) (.leaf (.inl (a.1,a.2)))
def O9 (a0:Int) (n:Nat) (f:Nat->E6) (a:(Nat->Int)×(Nat->Int)):Ex×St:=(.ex 4,⟨jsV 133 0 Aa [(1,.sl 6 n (λi=>eV (f i))),(4,iV 0),(5,iV 0),(6,nV n),(13,.ref 0)],[.row 3 1 n (λk=>iV (a.1 k)),.row 3 1 n (λk=>iV (a.2 k))]⟩)
theorem Agh (L:LT) (a0:Int) (n:Nat) (f:Nat->E6)  (hn:n <= 4611686018427387904) {e:Ex×St} {a:(Nat->Int)×(Nat->Int)} {j:Nat->V} (h:Cy (X4 a0 n f) (O9 a0 n f) n 0 a=some e):(A3 (Anl L) Abh 4611686018427387905 (AgK a0 n f 0 a j)).sem=some (exR e) :=
 Cd Dx hn (λi a j r hi h=>DK.ok (L:=goR (AgK a0 n f) exR i) (.k (ofNat_lt hi) <| .k (Ao hi) <| .c (λh1=>.r 5 h1 <| .k (Ao hi) <| .k h1 <| .k (decide_eq_true hi) <| .k h1 <| .r 2 (eL n) <| .k (eJ n) <| .k (decide_eq_true hn) <| .r 2 h1 <| .c (λh2=>.k h2 <| .l) λh2=>.k h2 <| .l) λh1=>.r 9 h1 <| .k eF <| .l) (by kernel_rfl) h) (λa j=>DK.ok (C:=.leaf (O9 a0 n f a)) (L:=exR) (.k (A1 (Nat.le_refl n)) .l) (by kernel_rfl) rfl) (Nat.zero_add _).symm (Nat.lt_succ_of_le hn) h
def Abg:Lp:=⟨bmK 133 0 [1,4,5,6,13,16],2,bmK 133 0 [4,5],0,4611686018427387905⟩
def AgJ (a0:Int) (n:Nat) (f:Nat->E6) (c:Int) (a:(Nat->Int)×(Nat->Int)) (j:Nat->V):St:=⟨jsV 133 0 j [(1,.sl 6 n (λi=>eV (f i))),(4,iV 0),(5,iV 0),(6,nV n),(13,.ref 0),(16,iV c)],[.row 3 1 n (λk=>iV (a.1 k)),.row 3 1 n (λk=>iV (a.2 k))]⟩
noncomputable def Ank (L:LT):St->T (Ex×St):=λst=>A7 tab ⟨Ap tb49,L,Gl⟩ (Ar Tryz.f52 6) 6 st
def JX (a0:Int) (n:Nat) (f:Nat->E6) (i:Nat) (a:(Nat->Int)×(Nat->Int)):Ex×St:=(.rt,⟨jsV 133 0 Aa [(4,iV 45),(5,nV i)],[]⟩)
def X3 (a0:Int) (n:Nat) (f:Nat->E6) (i:Nat) (a:(Nat->Int)×(Nat->Int)):T (((Nat->Int)×(Nat->Int)) ⊕ (Ex×St)):=.br (ilt 12 (OT n a.1 (λi=>bor (A6 false) (isW (f i))) (a.1 i))) (.leaf (.inr (JX a0 n f i a))) (.leaf (.inl (a.1,a.2)))
def O8 (a0:Int) (n:Nat) (f:Nat->E6) (a:(Nat->Int)×(Nat->Int)):Ex×St:=(.ex 6,⟨jsV 133 0 Aa [(4,iV 0),(5,iV 0)],[]⟩)
theorem Agg (L:LT) (a0:Int) (n:Nat) (f:Nat->E6)  (hn:n <= 4611686018427387904) {e:Ex×St} {a:(Nat->Int)×(Nat->Int)} {j:Nat->V} (h:Cy (X3 a0 n f) (O8 a0 n f) n 0 a=some e):(A3 (Ank L) Abg 4611686018427387905 (AgJ a0 n f 0 a j)).sem=some (exR e) :=
 Cd Dx hn (λi a j r hi h=>DK.ok (L:=goR (AgJ a0 n f) exR i) (.k (ofNat_lt hi) <| .k (Ao hi) <| .k (decide_eq_true hi) <| .r 2 (eL n) <| .k (eJ n) <| .k (decide_eq_true hn) <| .c (λh1=>.k h1 <| .l) λh1=>.k h1 <| .l) (by kernel_rfl) h) (λa j=>DK.ok (C:=.leaf (O8 a0 n f a)) (L:=exR) (.k (A1 (Nat.le_refl n)) .l) (by kernel_rfl) rfl) (Nat.zero_add _).symm (Nat.lt_succ_of_le hn) h
def Og:List (Nat×Lp×List (Nat×(Nat->V))):=[(0,Amm,[]),(2,Abi,[]),(4,Abh,[]),(6,Abg,[])]
abbrev pO (n:Nat) (f:Nat->E6):Nat->Int:=AG (λk=>AK (f k)) n
abbrev pM (n:Nat) (f:Nat->E6):Nat->Int:=AG (λk=>AJ (f k)) n
abbrev Ane (n:Nat) (f:Nat->E6):Int×Int:=(Is n f,JJ n f)
abbrev Afu (n:Nat) (f:Nat->E6):(Nat->Int)×(Nat->Int):=(pO n f,pM n f)
theorem Ab1 {a:Int} {e:E6} (h:B4 a=true):G8 a e=Bc e:=by unfold G8; rw [h]; rfl
theorem kn1 {a:Int} (h:ieq a 1=true):B4 a=true:=by unfold B4; rw [h]; rfl
theorem kn2 {a:Int} (h:ieq a 2=true):B4 a=true:=by unfold B4; rw [h]; cases ieq a 1 <;> rfl
section
variable {a0:Int} {n:Nat} {f:Nat->E6}
def P1 (f:Nat->E6) (i:Nat):Int×Int:=(ofNat (An (λk=>AK (f k)) i),ofNat (An (λk=>AJ (f k)) i))
def AcR (a0:Int) (n:Nat) (f:Nat->E6) (i:Nat):Ex×St:=sel (ieq (G8 a0 (f i)) 0) (Zy a0 n f i (P1 f i)) (Zx a0 n f i (P1 f i))
theorem c52 (hK:B4 a0=true) (hn:n <= 4611686018427387904) {i:Nat} (hi:i<n) (h:Du a0 f i=false):(g52 a0 n f i (P1 f i)).sem=some (.inl (P1 f (i+1))):=by
 have h1:=Be (λk=>AK (f k)) i;have h2:=Be (λk=>AJ (f k)) i;unfold Du at h;rw [Ab1 hK] at h;have w1:=MQ (show An (λk=>AK (f k)) i<n by omega) hn;have w2:=MQ (show An (λk=>AJ (f k)) i<n by omega) hn;show sel (ieq (Bc (f i)) 0) _ _=_;cases e1:ieq (Bc (f i)) 0 with
 | false=>rw [e1] at h; cases h
 | true =>
  show sel (MI a0 (f i)) _ _=_;cases e2:MI a0 (f i) with
  | false=>rw [e1,e2] at h; cases h
  | true =>
   show sel (AK (f i)) (sel (AJ (f i)) (some _) (some _)) (sel (AJ (f i)) (some _) (some _))=some (Sum.inl (ofNat (match AK (f i) with
    | true=>An (λk=>AK (f k)) i+1
    | false=>An (λk=>AK (f k)) i),ofNat (match AJ (f i) with
    | true=>An (λk=>AJ (f k)) i+1
    | false=>An (λk=>AJ (f k)) i)))
   cases AK (f i) <;> cases AJ (f i) <;> simp only [sel,P1,w1,w2] <;> rfl
theorem t52 (hK:B4 a0=true) {i:Nat} (h:Du a0 f i=true):(g52 a0 n f i (P1 f i)).sem=some (.inr (AcR a0 n f i)):=by
 unfold Du at h;unfold AcR;rw [Ab1 hK] at h ⊢;show sel (ieq (Bc (f i)) 0) _ _=_;cases e1:ieq (Bc (f i)) 0 with
 | false=>rfl
 | true =>
  show sel (MI a0 (f i)) _ _=_;cases e2:MI a0 (f i) with
  | false=>rfl
  | true=>rw [e1,e2] at h; cases h
theorem AoQ (hK:B4 a0=true) (hn:n <= 4611686018427387904) (h:isN (Bg (Du a0 f) n 0)=true):Cy (g52 a0 n f) (VO a0 n f) n 0 (0,0)=some (VO a0 n f (Is n f,JJ n f)):=RS (acc:=P1 f) (λ_ hi=>c52 hK hn hi) (λ_ _=>t52 hK) h
theorem Am8 (hK:B4 a0=true) (hn:n <= 4611686018427387904) (h:isN (Bg (Du a0 f) n 0)=false):Cy (g52 a0 n f) (VO a0 n f) n 0 (0,0)=some (AcR a0 n f (tO (Du a0 f) n)):=RR (acc:=P1 f) (λ_ hi=>c52 hK hn hi) (λ_ _=>t52 hK) h
theorem AoS (hK:B4 a0=true) (hn:n <= 4611686018427387904) (h:isN (Bg (Du a0 f) n 0)=false) (g:ieq (G8 a0 (f (tO (Du a0 f) n))) 0=true):Cy (g52 a0 n f) (VO a0 n f) n 0 (0,0)=some (Zy a0 n f (tO (Du a0 f) n) (P1 f (tO (Du a0 f) n))):=by rw [Am8 hK hn h,AcR,g]; rfl
theorem AoR (hK:B4 a0=true) (hn:n <= 4611686018427387904) (h:isN (Bg (Du a0 f) n 0)=false) (g:ieq (G8 a0 (f (tO (Du a0 f) n))) 0=false):Cy (g52 a0 n f) (VO a0 n f) n 0 (0,0)=some (Zx a0 n f (tO (Du a0 f) n) (P1 f (tO (Du a0 f) n))):=by rw [Am8 hK hn h,AcR,g]; rfl
theorem XU (hn:n <= 4611686018427387904) {a:Int×Int} {i:Nat} (hi:i<n):(TP a0 n f i a).sem=sel (GF n f i) (some (.inr (JZ a0 n f i a))) (some (.inl a)):=by
 unfold TP GF;rw [Od hi hn,show toN (ofNat ((i+1) % n))=(i+1) % n from rfl];cases ieq (f i).dst (f ((i+1) % n)).src <;> rfl
theorem AoP (hn:n <= 4611686018427387904) {a:Int×Int} (h:isN (Bg (GF n f) n 0)=true):Cy (TP a0 n f) (OA a0 n f) n 0 a=some (OA a0 n f a):=RS (acc:=λ_=>a) (x:=λi=>JZ a0 n f i a) (λi hi hq=>by rw [XU hn hi,hq]; rfl) (λi hi hq=>by rw [XU hn hi,hq]; rfl) h
theorem AoO (hn:n <= 4611686018427387904) {a:Int×Int} (h:isN (Bg (GF n f) n 0)=false):Cy (TP a0 n f) (OA a0 n f) n 0 a=some (JZ a0 n f (tO (GF n f) n) a):=RR (acc:=λ_=>a) (x:=λi=>JZ a0 n f i a) (λi hi hq=>by rw [XU hn hi,hq]; rfl) (λi hi hq=>by rw [XU hn hi,hq]; rfl) h
theorem XT {a:(Nat->Int)×(Nat->Int)} {i:Nat}:(X4 a0 n f i a).sem=sel (Bd n a.2 (λi=>isW (f i)) 2 i) (some (.inr (JY a0 n f i a))) (some (.inl a)):=by
 show sel (isW (f i)) _ _=sel (Al (isW (f i)) _) _ _;cases isW (f i) <;> rfl
theorem AoN {a:(Nat->Int)×(Nat->Int)} (h:isN (Bg (Bd n a.2 (λi=>isW (f i)) 2) n 0)=true):Cy (X4 a0 n f) (O9 a0 n f) n 0 a=some (O9 a0 n f a):=RS (acc:=λ_=>a) (x:=λi=>JY a0 n f i a) (λi _ hq=>by rw [XT,hq]; rfl) (λi _ hq=>by rw [XT,hq]; rfl) h
theorem AoM {a:(Nat->Int)×(Nat->Int)} (h:isN (Bg (Bd n a.2 (λi=>isW (f i)) 2) n 0)=false):Cy (X4 a0 n f) (O9 a0 n f) n 0 a=some (JY a0 n f (tO (Bd n a.2 (λi=>isW (f i)) 2) n) a):=RR (acc:=λ_=>a) (x:=λi=>JY a0 n f i a) (λi _ hq=>by rw [XT,hq]; rfl) (λi _ hq=>by rw [XT,hq]; rfl) h
theorem XS {a:(Nat->Int)×(Nat->Int)} {i:Nat}:(X3 a0 n f i a).sem=sel (Bd n a.1 (λ_=>true) 12 i) (some (.inr (JX a0 n f i a))) (some (.inl a)):=rfl
theorem AoL {a:(Nat->Int)×(Nat->Int)} (h:isN (Bg (Bd n a.1 (λ_=>true) 12) n 0)=true):Cy (X3 a0 n f) (O8 a0 n f) n 0 a=some (O8 a0 n f a):=RS (acc:=λ_=>a) (x:=λi=>JX a0 n f i a) (λi _ hq=>by rw [XS,hq]; rfl) (λi _ hq=>by rw [XS,hq]; rfl) h
theorem AoK {a:(Nat->Int)×(Nat->Int)} (h:isN (Bg (Bd n a.1 (λ_=>true) 12) n 0)=false):Cy (X3 a0 n f) (O8 a0 n f) n 0 a=some (JX a0 n f (tO (Bd n a.1 (λ_=>true) 12) n) a):=RR (acc:=λ_=>a) (x:=λi=>JX a0 n f i a) (λi _ hq=>by rw [XS,hq]; rfl) (λi _ hq=>by rw [XS,hq]; rfl) h
end
def C52 (a0:Int) (n:Nat) (f:Nat->E6):AR:=.br (ilt (ofNat n) 2) (.leaf ((.tup [iV 40,iV 0]),[])) (.br (ilt 16 (ofNat n)) (.leaf ((.tup [iV 40,iV 0]),[])) (.br (isN (Bg (Du a0 f) n 0)) (.br (isN (Bg (GF n f) n 0)) (.br (ilt (Is n f) 2) (.leaf ((.tup [iV 42,iV 0]),[])) (.br (ilt (JJ n f) 2) (.leaf ((.tup [iV 43,iV 0]),[])) (.br (isN (Bg (Bd n (pM n f) (λi=>isW (f i)) 2) n 0)) (.br (isN (Bg (Bd n (pO n f) (λ_=>true) 12) n 0)) (.leaf ((.tup [iV 0,iV 0]),[])) (.leaf ((.tup [iV 45,nO (Bd n (pO n f) (λ_=>true) 12) n]),[]))) (.leaf ((.tup [iV 44,nO (Bd n (pM n f) (λi=>isW (f i)) 2) n]),[]))))) (.leaf ((.tup [iV 41,nO (GF n f) n]),[]))) (.br (ieq (G8 a0 (f (tO (Du a0 f) n))) 0) (.leaf ((.tup [iV 5,nO (Du a0 f) n]),[])) (.leaf ((.tup [iV 30,nO (Du a0 f) n]),[])))))
theorem Af8 (a0:Int) (n:Nat) (f:Nat->E6):(C52 a0 n f).sem=some (.tup [iV (MN a0 n f).1,iV (MN a0 n f).2],[]):=by
 unfold C52 MN Ir Uq Wr crR nO tO;cases ilt (ofNat n) 2 with
 | true=>rfl
 | false =>
  cases ilt 16 (ofNat n) with
  | true=>rfl
  | false =>
   cases Bg (Du a0 f) n 0 with
   | some t =>show sel (ieq (G8 a0 (f t)) 0) _ _=_;cases e:ieq (G8 a0 (f t)) 0 <;> simp only [e] <;> rfl
   | none =>
    cases Bg (GF n f) n 0 with
    | some t=>rfl
    | none =>
     show sel (ilt (Is n f) 2) _ _=some (V.tup [iV (match ilt (Is n f) 2,ilt (JJ n f) 2 with
      | true,_=>((42:Int),(0:Int))
      | false,true=>(43,0)
      | false,false=>_).1,iV (match ilt (Is n f) 2,ilt (JJ n f) 2 with
      | true,_=>((42:Int),(0:Int))
      | false,true=>(43,0)
      | false,false=>_).2],[])
     cases ilt (Is n f) 2 with
     | true=>rfl
     | false =>
      cases ilt (JJ n f) 2 with
      | true=>rfl
      | false =>
       cases Bg (Bd n (AG (λk=>AJ (f k)) n) (λi=>isW (f i)) 2) n 0 with
       | some t=>rfl
       | none=>cases Bg (Bd n (AG (λk=>AK (f k)) n) (λ_=>true) 12) n 0 <;> rfl
def AgG (a:Int) (C:AR):AR:=.br (ieq a 1) C (.br (ieq a 2) C (.leaf (.tup [iV 1,iV 0],[])))
theorem QA {a:Int} {n:Nat} {f:Nat->E6} {C:AR} (h:C.sem=some (.tup [iV (MN a n f).1,iV (MN a n f).2],[])):(AgG a C).sem=some (.tup [iV (OU a n f).1,iV (OU a n f).2],[]):=by
 unfold AgG OU;cases ieq a 1 with
 | true=>exact h
 | false =>
  cases ieq a 2 with
  | true=>exact h
  | false=>rfl
theorem p49:Ax Tryz.prog Gl 52 MM:=by
 refine Am A8 mixed Tryz.func52 (by kernel_rfl) (by kernel_rfl) λvs v h' h=>?_;unfold MM at h;split at h
 ·rename_i a0 u
  obtain ⟨n,f,ha,h1⟩:=Cl h;obtain ⟨hF,hq⟩:=Ad h1;have:=Ac hq;simp only [Prod.mk.injEq] at this;obtain ⟨rfl,rfl⟩:=this;have hn:n <= 4611686018427387904:=DE (FG hF);have hx:=FK tb49_ok Og (G:=Gl);have w:=λ(hK:B4 a0=true)=>show DK (λa=>a) (C52 a0 n f) _ from .c (λh1=>.r 3 h1 <| .k eT <| .l) λh1=>.r 3 h1 <| .c (λh2=>.k h2 <| .l) λh2=>.k h2 <| .c (λh3=>.a (r52 (askL Og) a0 n f hn (j:=λ_=>.und) (AoQ hK hn h3)) <| .c (λh4=>.a (Agi (askL Og) a0 n f hn (j:=λ_=>.und) (AoP (a:=Ane n f) hn h4)) <| .c (λh5=>.k h5 <| .l) λh5=>.k h5 <| .c (λh6=>.k h6 <| .l) λh6=>.k h6 <| .k (eL n) <| .k hF <| .k (eL n) <| .k hF <| .c (λh7=>.a (Agh (askL Og) a0 n f hn (j:=λ_=>.und) (AoN (a:=Afu n f) h7)) <| .c (λh8=>.a (Agg (askL Og) a0 n f hn (j:=λ_=>.und) (AoL (a:=Afu n f) h8)) <| .l) λh8=>.a (Agg (askL Og) a0 n f hn (j:=λ_=>.und) (AoK (a:=Afu n f) h8)) <| .l) λh7=>.a (Agh (askL Og) a0 n f hn (j:=λ_=>.und) (AoM (a:=Afu n f) h7)) <| .l) λh4=>.a (Agi (askL Og) a0 n f hn (j:=λ_=>.und) (AoO (a:=Ane n f) hn h4)) <| .l) λh3=>.c (λg=>.a (r52 (askL Og) a0 n f hn (j:=λ_=>.und) (AoS hK hn h3 g)) .l) λg=>.a (r52 (askL Og) a0 n f hn (j:=λ_=>.und) (AoR hK hn h3 g)) .l
  exact ⟨_,cxA Gl tb49 Og,_,AjB ha,rfl,hx.1,hx.2,DK.of (QA (Af8 a0 n f)) (.c (λh1=>.k (eN h1) <| .k (eN h1) <| .k (eN h1) <| .k eF (w (kn1 h1))) λh1=>.k (eN h1) <| .k (eN h1) <| .k (eN h1) <| .c (λh2=>.k (eN h2) (w (kn2 h2))) λh2=>.k (eN h2) .l) (by kernel_rfl),Aw.refl _⟩
 ·cases h
noncomputable def Ak3:AP:=(110,Ajx)::(111,Wq)::(116,Vx)::(115,Wp)::[]
theorem Ad5:Av Tryz.prog Gl Ak3:=.cons p86 <| .cons p87 <| .cons p92 <| .cons p91 .nil
def AmI (a:Int) (n:Nat) (f:Nat->E6):Int:=(Ir a n f).1
def AoU (a:Int) (n:Nat) (f:Nat->E6):Int:=(Ir a n f).2
def crI (n:Nat) (l:Nat->Int) (c:Nat->Bool) (q:Int):Int:=(crR n l c q).1
def crB (n:Nat) (l:Nat->Int) (c:Nat->Bool) (q:Int):Bool:=(crR n l c q).2
theorem Ts (p:Nat->Bool) (n:Nat) (hn:n <= 4611686018427387904):okP n (AG p n)=true:=A0.2 λi hi=>by
 unfold AG;cases decide (i<n) with
 | false=>rfl
 | true =>
  cases decide (An p i=An p n) with
  | true=>rfl
  | false =>have:=Be p i;exact RP (by omega)
def C84 (a0:Int) (n:Nat) (f:Nat->E6):AR:=.br (ilt (ofNat n) 2) (.leaf ((.tup [iV 40,iV 0]),[])) (.br (ilt 16 (ofNat n)) (.leaf ((.tup [iV 40,iV 0]),[])) (.br (ieq (AmI a0 n f) 0) (.br (ilt (Is n f) 2) (.leaf ((.tup [iV 42,iV 0]),[])) (.br (ilt (JJ n f) 2) (.leaf ((.tup [iV 43,iV 0]),[])) (.br (crB n (AG (λk=>AJ (f k)) n) (λi=>isW (f i)) 2) (.leaf ((.tup [iV 44,iV (crI n (AG (λk=>AJ (f k)) n) (λi=>isW (f i)) 2)]),[])) (.br (crB n (AG (λk=>AK (f k)) n) (λ_=>true) 12) (.leaf ((.tup [iV 45,iV (crI n (AG (λk=>AK (f k)) n) (λ_=>true) 12)]),[])) (.leaf ((.tup [iV 0,iV 0]),[])))))) (.leaf ((.tup [iV (AmI a0 n f),iV (AoU a0 n f)]),[]))))
theorem Af6 (a0:Int) (n:Nat) (f:Nat->E6):(C84 a0 n f).sem=some (.tup [iV (MN a0 n f).1,iV (MN a0 n f).2],[]):=by
 unfold C84 MN Uq Wr;cases ilt (ofNat n) 2 with
 | true=>rfl
 | false =>
  cases ilt 16 (ofNat n) with
  | true=>rfl
  | false =>
   show sel (ieq (Ir a0 n f).1 0) _ _=_;cases e:ieq (Ir a0 n f).1 0 with
   | false=>rfl
   | true =>
    show sel (ilt (Is n f) 2) _ _=some (V.tup [iV (match ilt (Is n f) 2,ilt (JJ n f) 2 with
     | true,_=>((42:Int),(0:Int))
     | false,true=>(43,0)
     | false,false=>_).1,iV (match ilt (Is n f) 2,ilt (JJ n f) 2 with
     | true,_=>((42:Int),(0:Int))
     | false,true=>(43,0)
     | false,false=>_).2],[])
    cases ilt (Is n f) 2 with
    | true=>rfl
    | false =>
     cases ilt (JJ n f) 2 with
     | true=>rfl
     | false =>
      show sel (crR n (AG (λk=>AJ (f k)) n) (λi=>isW (f i)) 2).2 (some (V.tup [iV 44,iV (crR n (AG (λk=>AJ (f k)) n) (λi=>isW (f i)) 2).1],[])) (sel (crR n (AG (λk=>AK (f k)) n) (λ_=>true) 12).2 (some (V.tup [iV 45,iV (crR n (AG (λk=>AK (f k)) n) (λ_=>true) 12).1],[])) _)=_;cases crR n (AG (λk=>AJ (f k)) n) (λi=>isW (f i)) 2 with
      | mk x b =>
       cases b with
       | true=>rfl
       | false =>
        cases crR n (AG (λk=>AK (f k)) n) (λ_=>true) 12 with
        | mk x b=>cases b <;> rfl
theorem p48:Ax Tryz.prog Gl 84 MM:=by
 refine Am A8 mixed Tryz.func84 (by kernel_rfl) (by kernel_rfl) λvs v h' h=>?_;unfold MM at h;split at h
 ·rename_i a0 u
  obtain ⟨n,f,ha,h1⟩:=Cl h;obtain ⟨hF,hq⟩:=Ad h1;have:=Ac hq;simp only [Prod.mk.injEq] at this;obtain ⟨rfl,rfl⟩:=this;have hn:n <= 4611686018427387904:=DE (FG hF);have hk:DA 8 (ofNat n) (ofNat n)=true:=Ao8 hF;have hx:=AI Ad5 [] (G:=Gl);have w:DK (λa=>a) (C84 a0 n f) _:=.c (λh1=>.r 4 h1 <| .k eT <| .l) λh1=>.r 4 h1 <| .c (λh2=>.k h2 <| .l) λh2=>.k h2 <| .k (eL n) <| .k hF <| .c (λh3=>.k (eN h3) <| .k (eL n) <| .k (decide_eq_true hn) <| .c (λh4=>.k h4 <| .l) λh4=>.k h4 <| .k (eL n) <| .k (decide_eq_true hn) <| .c (λh5=>.k h5 <| .l) λh5=>.k h5 <| .k (eL n) <| .k hk <| .r 2 (eL n) <| .k (eJ n) <| .k (decide_eq_true hn) <| .k (Ts (λk=>AJ (f k)) n hn) <| .c (λh6=>.k h6 <| .l) λh6=>.k h6 <| .k (eL n) <| .k hk <| .k (eL n) <| .k (decide_eq_true hn) <| .k (Ts (λk=>AK (f k)) n hn) <| .c (λh7=>.k h7 <| .l) λh7=>.k h7 <| .l) λh3=>.k (eN h3) <| .l
  exact ⟨_,AC Gl Ak3 [],_,AjB ha,rfl,hx.1,hx.2,DK.of (QA (Af6 a0 n f)) (.c (λh1=>.k (eN h1) <| .k (eN h1) <| .k (eN h1) <| .k eF w) λh1=>.k (eN h1) <| .k (eN h1) <| .k (eN h1) <| .c (λh2=>.k (eN h2) w) λh2=>.k (eN h2) .l) (by kernel_rfl),Aw.refl _⟩
 ·cases h
end Go.Proofs.YtkgdhhieomndeaaGreatDoor.Ed
namespace Go.Proofs.YtkgdhhieomndeaaGreatDoor.Ed
open Go.Sy
def B6 (a:Int) (n:Nat) (f:Nat->E6):Int:=(OU a n f).1
def Da (a:Int) (n:Nat) (f:Nat->E6):Int:=(OU a n f).2
end Go.Proofs.YtkgdhhieomndeaaGreatDoor.Ed
