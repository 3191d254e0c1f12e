/-
  Check, the program's and the document's: one answer. No conditions.
-/
import Derived.Test.YtkgdhhieomndeaaGreatDoorEdX
import Derived.Test.YtkgdhhieomndeaaGreatDoorEdY
import Derived.Test.YtkgdhhieomndeaaGreatDoorCyT
namespace Go.Proofs.YtkgdhhieomndeaaGreatDoor.Ed
open Go.Sy
open Int (ofNat)
noncomputable def tb49:AK:=(76,BW λe=>iV (Bd e))::(77,ap2 gI toE λa e=>out (Sp a e))::(78,BW λe=>bV (AB e))::(79,BW λe=>bV (AN e))::(80,RX)::(81,RV)::(82,Ad9)::[]
theorem tb49_ok:Aq Tryz.prog Gl tb49:=.cons p29 <| .cons p33 <| .cons p60 <| .cons p61 <| .cons p94 <| .cons p95 <| .cons p96 .nil
def Ia (n:Nat) (f:Nat->E6):Int:=ofNat (An (λk=>AB (f k)) n)
def IL (n:Nat) (f:Nat->E6):Int:=ofNat (An (λk=>AN (f k)) n)
def SS (n:Nat) (f:Nat->E6):Int×Int :=
 match crR n (AG (λk=>AN (f k)) n) (λi=>isW (f i)) 2 with
 | (i,true)=>(44,i)
 | (_,false)=>match crR n (AG (λk=>AB (f k)) n) (λ_=>true) 12 with
   | (i,true)=>(45,i)
   | (_,false)=>(0,0)
def PW (n:Nat) (f:Nat->E6):Int×Int :=
 match ilt (Ia n f) 2,ilt (IL n f) 2 with
 | true,_=>(42,0)
 | false,true=>(43,0)
 | false,false=>SS n f
def My (a:Int) (n:Nat) (f:Nat->E6):Int×Int :=
 match ilt (ofNat n) 2,ilt 16 (ofNat n) with
 | true,_=>(40,0)
 | false,true=>(40,0)
 | false,false=>match HY a n f,ieq (HY a n f).1 0 with
  | r,false=>r
  | _,true=>PW n f
def Ns (a:Int) (n:Nat) (f:Nat->E6):Int×Int :=
 match ieq a 1,ieq a 2 with
 | false,false=>(1,0)
 | _,_=>My a n f
def Nr:List V->AE
 | [.val (.int .i64 a),v]=>apL v λn f=>.br (BC n) (out (.tup [iV (Ns a n f).1,iV (Ns a n f).2])) .fail
 | _=>.fail
theorem SU {a:Int} {n:Nat} {f:Nat->E6} (h:ieq a 1=true ∨ ieq a 2=true):Ns a n f=My a n f:=by
 unfold Ns;rcases h with h | h
 ·rw [h]
 ·rw [h]
  cases ieq a 1 <;> rfl
theorem ApH {n:Nat} (h:BC n=true):E8 8 (ofNat n) (ofNat n)=true:=by
 have:=Ka h;simp only [E8,Bool.and_eq_true,decide_eq_true_eq,Int.ofNat_eq_natCast];omega
theorem AjS {i n:Nat} (h:i<n) (hn:n <= 4611686018427387904):Ao (ile 0 (Ar (wr .i64 (Ak (ofNat i) 1)) (ofNat n))) (ilt (Ar (wr .i64 (Ak (ofNat i) 1)) (ofNat n)) (ofNat n))=true:=by
 rw [O5 h hn];exact Ag (Nat.mod_lt _ (by omega))
def Ang:Lp:=⟨bmK 133 0 [0,1,4,5,6,7,8,9],0,bmK 133 0 [1,4,5,6,7,8],0,4611686018427387905⟩
def S52 (a0:Int) (n:Nat) (f:Nat->E6) (c:Int) (a:Int×Int) (j:Nat->V):St:=⟨jsV 133 0 j [(0,iV a0),(1,.sl 6 n (λi=>eV (f i))),(4,iV 0),(5,iV 0),(6,nV n),(7,iV a.1),(8,iV a.2),(9,iV c)],[]⟩
noncomputable def B52 (L:LT):St->T (Ex×St):=λst=>AD tab ⟨Am tb49,L,Gl⟩ (Au Tryz.f52 0) 0 st
def Aaw (a0:Int) (n:Nat) (f:Nat->E6) (i:Nat) (a:Int×Int):Ex×St:=(.rt,⟨jsV 133 0 Aa [(1,.sl 6 n (λi=>eV (f i))),(4,iV 5),(5,nV i),(6,nV n),(7,iV a.1),(8,iV a.2)],[]⟩)
def Aav (a0:Int) (n:Nat) (f:Nat->E6) (i:Nat) (a:Int×Int):Ex×St:=(.rt,⟨jsV 133 0 Aa [(1,.sl 6 n (λi=>eV (f i))),(4,iV 30),(5,nV i),(6,nV n),(7,iV a.1),(8,iV a.2)],[]⟩)
def g52 (a0:Int) (n:Nat) (f:Nat->E6) (i:Nat) (a:Int×Int):T ((Int×Int) ⊕ (Ex×St)):=.br (ieq (Bd (f i)) 0) (.br (Np a0 (f i)) (.br (AB (f i)) (.br (AN (f i)) (.leaf (.inl ((wr .i64 (Ak a.1 1)),wr .i64 (Ak a.2 1)))) (.leaf (.inl ((wr .i64 (Ak a.1 1)),a.2)))) (.br (AN (f i)) (.leaf (.inl (a.1,wr .i64 (Ak a.2 1)))) (.leaf (.inl (a.1,a.2))))) (.leaf (.inr (Aaw a0 n f i a)))) (.leaf (.inr (Aav a0 n f i a)))
def WP (a0:Int) (n:Nat) (f:Nat->E6) (a:Int×Int):Ex×St:=(.ex 0,⟨jsV 133 0 Aa [(1,.sl 6 n (λi=>eV (f i))),(4,iV 0),(5,iV 0),(6,nV n),(7,iV a.1),(8,iV a.2)],[]⟩)
theorem r52 (L:LT) (a0:Int) (n:Nat) (f:Nat->E6)  (hn:n <= 4611686018427387904) {e:Ex×St} {a:Int×Int} {j:Nat->V} (h:BR (g52 a0 n f) (WP a0 n f) n 0 a=some e):(A3 (B52 L) Ang 4611686018427387905 (S52 a0 n f 0 a j)).sem=some (exR e) :=
 Bq BZ hn (λi a j r hi h=>DK.ok (L:=goR (S52 a0 n f) exR i) (.k (ofNat_lt hi) <| .k (Ag hi) <| .c (λh1=>.k (eN h1) <| .k (Ag hi) <| .c (λh2=>.k (eN h2) <| .k (Ag hi) <| .c (λh3=>.k h3 <| .k (Ag hi) <| .c (λh4=>.k h4 <| .l) λh4=>.k h4 <| .l) λh3=>.k h3 <| .k (Ag hi) <| .c (λh5=>.k h5 <| .l) λh5=>.k h5 <| .l) λh2=>.k (eN h2) <| .l) λh1=>.k (eN h1) <| .l) (by kernel_rfl) h) (λa j=>DK.ok (C:=.leaf (WP a0 n f a)) (L:=exR) (.k (Aw (Nat.le_refl n)) .l) (by kernel_rfl) rfl) (Nat.zero_add _).symm (Nat.lt_succ_of_le hn) h
def Acf:Lp:=⟨bmK 133 0 [1,4,5,6,7,8,12],0,bmK 133 0 [1,4,5,6,7,8],0,4611686018427387905⟩
def AhS (a0:Int) (n:Nat) (f:Nat->E6) (c:Int) (a:Int×Int) (j:Nat->V):St:=⟨jsV 133 0 j [(1,.sl 6 n (λi=>eV (f i))),(4,iV 0),(5,iV 0),(6,nV n),(7,iV a.1),(8,iV a.2),(12,iV c)],[]⟩
noncomputable def Aot (L:LT):St->T (Ex×St):=λst=>AD tab ⟨Am tb49,L,Gl⟩ (Au Tryz.f52 2) 2 st
def Kt (a0:Int) (n:Nat) (f:Nat->E6) (i:Nat) (a:Int×Int):Ex×St:=(.rt,⟨jsV 133 0 Aa [(1,.sl 6 n (λi=>eV (f i))),(4,iV 41),(5,nV i),(6,nV n),(7,iV a.1),(8,iV a.2)],[]⟩)
def UI (a0:Int) (n:Nat) (f:Nat->E6) (i:Nat) (a:Int×Int):T ((Int×Int) ⊕ (Ex×St)):=.br (ieq (f i).dst (f (toN (Ar (wr .i64 (Ak (ofNat i) 1)) (ofNat n)))).src) (.leaf (.inl (a.1,a.2))) (.leaf (.inr (Kt a0 n f i a)))
def Pd (a0:Int) (n:Nat) (f:Nat->E6) (a:Int×Int):Ex×St:=(.ex 2,⟨jsV 133 0 Aa [(1,.sl 6 n (λi=>eV (f i))),(4,iV 0),(5,iV 0),(6,nV n),(7,iV a.1),(8,iV a.2)],[]⟩)
theorem Ahi (L:LT) (a0:Int) (n:Nat) (f:Nat->E6)  (hn:n <= 4611686018427387904) {e:Ex×St} {a:Int×Int} {j:Nat->V} (h:BR (UI a0 n f) (Pd a0 n f) n 0 a=some e):(A3 (Aot L) Acf 4611686018427387905 (AhS a0 n f 0 a j)).sem=some (exR e) :=
 Bq BZ hn (λi a j r hi h=>DK.ok (L:=goR (AhS a0 n f) exR i) (.k (ofNat_lt hi) <| .k (Ag hi) <| .k (KE hi) <| .k (AjS hi hn) <| .c (λh1=>.k (eN h1) <| .l) λh1=>.k (eN h1) <| .l) (by kernel_rfl) h) (λa j=>DK.ok (C:=.leaf (Pd a0 n f a)) (L:=exR) (.k (Aw (Nat.le_refl n)) .l) (by kernel_rfl) rfl) (Nat.zero_add _).symm (Nat.lt_succ_of_le hn) h
def Ace:Lp:=⟨bmK 133 0 [1,4,5,6,13,14,15],2,bmK 133 0 [1,4,5,6,13],2,4611686018427387905⟩
def AhR (a0:Int) (n:Nat) (f:Nat->E6) (c:Int) (a:(Nat->Int)×(Nat->Int)) (j:Nat->V):St:=⟨jsV 133 0 j [(1,.sl 6 n (λi=>eV (f i))),(4,iV 0),(5,iV 0),(6,nV n),(13,.ref 0),(14,.ref 1),(15,iV c)],[.row 3 1 n (λk=>iV (a.1 k)),.row 3 1 n (λk=>iV (a.2 k))]⟩
noncomputable def Aos (L:LT):St->T (Ex×St):=λst=>AD tab ⟨Am tb49,L,Gl⟩ (Au Tryz.f52 4) 4 st
def Ks (a0:Int) (n:Nat) (f:Nat->E6) (i:Nat) (a:(Nat->Int)×(Nat->Int)):Ex×St:=(.rt,⟨jsV 133 0 Aa [(1,.sl 6 n (λi=>eV (f i))),(4,iV 44),(5,nV i),(6,nV n),(13,.ref 0)],[.row 3 1 n (λk=>iV (a.1 k)),.row 3 1 n (λk=>iV (a.2 k))]⟩)
def Yw (a0:Int) (n:Nat) (f:Nat->E6) (i:Nat) (a:(Nat->Int)×(Nat->Int)):T (((Nat->Int)×(Nat->Int)) ⊕ (Ex×St)):=.br (ieq (f i).src 2) (.br (ilt 2 (Pu n a.2 (λi=>bor (A5 true) (isW (f i))) (a.2 i))) (.leaf (.inr (Ks a0 n f i a))) (.leaf (.inl (a.1,a.2)))) (.leaf (.inl (a.1,a.2)))
def Pb (a0:Int) (n:Nat) (f:Nat->E6) (a:(Nat->Int)×(Nat->Int)):Ex×St:=(.ex 4,⟨jsV 133 0 Aa [(1,.sl 6 n (λi=>eV (f i))),(4,iV 0),(5,iV 0),(6,nV n),(13,.ref 0)],[.row 3 1 n (λk=>iV (a.1 k)),.row 3 1 n (λk=>iV (a.2 k))]⟩)
theorem Ahh (L:LT) (a0:Int) (n:Nat) (f:Nat->E6)  (hn:n <= 4611686018427387904) {e:Ex×St} {a:(Nat->Int)×(Nat->Int)} {j:Nat->V} (h:BR (Yw a0 n f) (Pb a0 n f) n 0 a=some e):(A3 (Aos L) Ace 4611686018427387905 (AhR a0 n f 0 a j)).sem=some (exR e) :=
 Bq BZ hn (λi a j r hi h=>DK.ok (L:=goR (AhR a0 n f) exR i) (.k (ofNat_lt hi) <| .k (Ag hi) <| .c (λh1=>.r 5 h1 <| .k (Ag hi) <| .k h1 <| .k (decide_eq_true hi) <| .k h1 <| .r 2 (eL n) <| .k (eJ n) <| .k (decide_eq_true hn) <| .r 2 h1 <| .c (λh2=>.k h2 <| .l) λh2=>.k h2 <| .l) λh1=>.r 9 h1 <| .k eF <| .l) (by kernel_rfl) h) (λa j=>DK.ok (C:=.leaf (Pb a0 n f a)) (L:=exR) (.k (Aw (Nat.le_refl n)) .l) (by kernel_rfl) rfl) (Nat.zero_add _).symm (Nat.lt_succ_of_le hn) h
def Acd:Lp:=⟨bmK 133 0 [1,4,5,6,13,16],2,bmK 133 0 [4,5],0,4611686018427387905⟩
def AhQ (a0:Int) (n:Nat) (f:Nat->E6) (c:Int) (a:(Nat->Int)×(Nat->Int)) (j:Nat->V):St:=⟨jsV 133 0 j [(1,.sl 6 n (λi=>eV (f i))),(4,iV 0),(5,iV 0),(6,nV n),(13,.ref 0),(16,iV c)],[.row 3 1 n (λk=>iV (a.1 k)),.row 3 1 n (λk=>iV (a.2 k))]⟩
noncomputable def Aor (L:LT):St->T (Ex×St):=λst=>AD tab ⟨Am tb49,L,Gl⟩ (Au Tryz.f52 6) 6 st
def Kr (a0:Int) (n:Nat) (f:Nat->E6) (i:Nat) (a:(Nat->Int)×(Nat->Int)):Ex×St:=(.rt,⟨jsV 133 0 Aa [(4,iV 45),(5,nV i)],[]⟩)
def Yv (a0:Int) (n:Nat) (f:Nat->E6) (i:Nat) (a:(Nat->Int)×(Nat->Int)):T (((Nat->Int)×(Nat->Int)) ⊕ (Ex×St)):=.br (ilt 12 (Pu n a.1 (λi=>bor (A5 false) (isW (f i))) (a.1 i))) (.leaf (.inr (Kr a0 n f i a))) (.leaf (.inl (a.1,a.2)))
def Pa (a0:Int) (n:Nat) (f:Nat->E6) (a:(Nat->Int)×(Nat->Int)):Ex×St:=(.ex 6,⟨jsV 133 0 Aa [(4,iV 0),(5,iV 0)],[]⟩)
theorem Ahg (L:LT) (a0:Int) (n:Nat) (f:Nat->E6)  (hn:n <= 4611686018427387904) {e:Ex×St} {a:(Nat->Int)×(Nat->Int)} {j:Nat->V} (h:BR (Yv a0 n f) (Pa a0 n f) n 0 a=some e):(A3 (Aor L) Acd 4611686018427387905 (AhQ a0 n f 0 a j)).sem=some (exR e) :=
 Bq BZ hn (λi a j r hi h=>DK.ok (L:=goR (AhQ a0 n f) exR i) (.k (ofNat_lt hi) <| .k (Ag hi) <| .k (decide_eq_true hi) <| .r 2 (eL n) <| .k (eJ n) <| .k (decide_eq_true hn) <| .c (λh1=>.k h1 <| .l) λh1=>.k h1 <| .l) (by kernel_rfl) h) (λa j=>DK.ok (C:=.leaf (Pa a0 n f a)) (L:=exR) (.k (Aw (Nat.le_refl n)) .l) (by kernel_rfl) rfl) (Nat.zero_add _).symm (Nat.lt_succ_of_le hn) h
def OA:List (Nat×Lp×List (Nat×(Nat->V))):=[(0,Ang,[]),(2,Acf,[]),(4,Ace,[]),(6,Acd,[])]
abbrev pO (n:Nat) (f:Nat->E6):Nat->Int:=AG (λk=>AB (f k)) n
abbrev pM (n:Nat) (f:Nat->E6):Nat->Int:=AG (λk=>AN (f k)) n
abbrev Aoh (n:Nat) (f:Nat->E6):Int×Int:=(Ia n f,IL n f)
abbrev Agv (n:Nat) (f:Nat->E6):(Nat->Int)×(Nat->Int):=(pO n f,pM n f)
theorem Acz {a:Int} {e:E6} (h:BI a=true):GU a e=Bd e:=by unfold GU; rw [h]; rfl
theorem kn1 {a:Int} (h:ieq a 1=true):BI a=true:=by unfold BI; rw [h]; rfl
theorem kn2 {a:Int} (h:ieq a 2=true):BI a=true:=by unfold BI; rw [h]; cases ieq a 1 <;> rfl
section
variable {a0:Int} {n:Nat} {f:Nat->E6}
def PY (f:Nat->E6) (i:Nat):Int×Int:=(ofNat (An (λk=>AB (f k)) i),ofNat (An (λk=>AN (f k)) i))
def AdL (a0:Int) (n:Nat) (f:Nat->E6) (i:Nat):Ex×St:=sel (ieq (GU a0 (f i)) 0) (Aaw a0 n f i (PY f i)) (Aav a0 n f i (PY f i))
theorem c52 (hK:BI a0=true) (hn:n <= 4611686018427387904) {i:Nat} (hi:i<n) (h:DF a0 f i=false):(g52 a0 n f i (PY f i)).sem=some (.inl (PY f (i+1))):=by
 have h1:=Bm (λk=>AB (f k)) i;have h2:=Bm (λk=>AN (f k)) i;unfold DF at h;rw [Acz hK] at h;have w1:=Nt (show An (λk=>AB (f k)) i<n by omega) hn;have w2:=Nt (show An (λk=>AN (f k)) i<n by omega) hn;show sel (ieq (Bd (f i)) 0) _ _=_;cases e1:ieq (Bd (f i)) 0 with
 | false=>rw [e1] at h; cases h
 | true =>
  show sel (Np a0 (f i)) _ _=_;cases e2:Np a0 (f i) with
  | false=>rw [e1,e2] at h; cases h
  | true =>
   show sel (AB (f i)) (sel (AN (f i)) (some _) (some _)) (sel (AN (f i)) (some _) (some _))=some (Sum.inl (ofNat (match AB (f i) with
    | true=>An (λk=>AB (f k)) i+1
    | false=>An (λk=>AB (f k)) i),ofNat (match AN (f i) with
    | true=>An (λk=>AN (f k)) i+1
    | false=>An (λk=>AN (f k)) i)))
   cases AB (f i) <;> cases AN (f i) <;> simp only [sel,PY,w1,w2] <;> rfl
theorem t52 (hK:BI a0=true) {i:Nat} (h:DF a0 f i=true):(g52 a0 n f i (PY f i)).sem=some (.inr (AdL a0 n f i)):=by
 unfold DF at h;unfold AdL;rw [Acz hK] at h ⊢;show sel (ieq (Bd (f i)) 0) _ _=_;cases e1:ieq (Bd (f i)) 0 with
 | false=>rfl
 | true =>
  show sel (Np a0 (f i)) _ _=_;cases e2:Np a0 (f i) with
  | false=>rfl
  | true=>rw [e1,e2] at h; cases h
theorem ApX (hK:BI a0=true) (hn:n <= 4611686018427387904) (h:isN (Bh (DF a0 f) n 0)=true):BR (g52 a0 n f) (WP a0 n f) n 0 (0,0)=some (WP a0 n f (Ia n f,IL n f)):=SI (acc:=PY f) (λ_ hi=>c52 hK hn hi) (λ_ _=>t52 hK) h
theorem AnA (hK:BI a0=true) (hn:n <= 4611686018427387904) (h:isN (Bh (DF a0 f) n 0)=false):BR (g52 a0 n f) (WP a0 n f) n 0 (0,0)=some (AdL a0 n f (tO (DF a0 f) n)):=SH (acc:=PY f) (λ_ hi=>c52 hK hn hi) (λ_ _=>t52 hK) h
theorem ApZ (hK:BI a0=true) (hn:n <= 4611686018427387904) (h:isN (Bh (DF a0 f) n 0)=false) (g:ieq (GU a0 (f (tO (DF a0 f) n))) 0=true):BR (g52 a0 n f) (WP a0 n f) n 0 (0,0)=some (Aaw a0 n f (tO (DF a0 f) n) (PY f (tO (DF a0 f) n))):=by rw [AnA hK hn h,AdL,g]; rfl
theorem ApY (hK:BI a0=true) (hn:n <= 4611686018427387904) (h:isN (Bh (DF a0 f) n 0)=false) (g:ieq (GU a0 (f (tO (DF a0 f) n))) 0=false):BR (g52 a0 n f) (WP a0 n f) n 0 (0,0)=some (Aav a0 n f (tO (DF a0 f) n) (PY f (tO (DF a0 f) n))):=by rw [AnA hK hn h,AdL,g]; rfl
theorem YS (hn:n <= 4611686018427387904) {a:Int×Int} {i:Nat} (hi:i<n):(UI a0 n f i a).sem=sel (Gr n f i) (some (.inr (Kt a0 n f i a))) (some (.inl a)):=by
 unfold UI Gr;rw [O5 hi hn,show toN (ofNat ((i+1) % n))=(i+1) % n from rfl];cases ieq (f i).dst (f ((i+1) % n)).src <;> rfl
theorem ApW (hn:n <= 4611686018427387904) {a:Int×Int} (h:isN (Bh (Gr n f) n 0)=true):BR (UI a0 n f) (Pd a0 n f) n 0 a=some (Pd a0 n f a):=SI (acc:=λ_=>a) (x:=λi=>Kt a0 n f i a) (λi hi hq=>by rw [YS hn hi,hq]; rfl) (λi hi hq=>by rw [YS hn hi,hq]; rfl) h
theorem ApV (hn:n <= 4611686018427387904) {a:Int×Int} (h:isN (Bh (Gr n f) n 0)=false):BR (UI a0 n f) (Pd a0 n f) n 0 a=some (Kt a0 n f (tO (Gr n f) n) a):=SH (acc:=λ_=>a) (x:=λi=>Kt a0 n f i a) (λi hi hq=>by rw [YS hn hi,hq]; rfl) (λi hi hq=>by rw [YS hn hi,hq]; rfl) h
theorem YR {a:(Nat->Int)×(Nat->Int)} {i:Nat}:(Yw a0 n f i a).sem=sel (Bi n a.2 (λi=>isW (f i)) 2 i) (some (.inr (Ks a0 n f i a))) (some (.inl a)):=by
 show sel (isW (f i)) _ _=sel (Ao (isW (f i)) _) _ _;cases isW (f i) <;> rfl
theorem ApU {a:(Nat->Int)×(Nat->Int)} (h:isN (Bh (Bi n a.2 (λi=>isW (f i)) 2) n 0)=true):BR (Yw a0 n f) (Pb a0 n f) n 0 a=some (Pb a0 n f a):=SI (acc:=λ_=>a) (x:=λi=>Ks a0 n f i a) (λi _ hq=>by rw [YR,hq]; rfl) (λi _ hq=>by rw [YR,hq]; rfl) h
theorem ApT {a:(Nat->Int)×(Nat->Int)} (h:isN (Bh (Bi n a.2 (λi=>isW (f i)) 2) n 0)=false):BR (Yw a0 n f) (Pb a0 n f) n 0 a=some (Ks a0 n f (tO (Bi n a.2 (λi=>isW (f i)) 2) n) a):=SH (acc:=λ_=>a) (x:=λi=>Ks a0 n f i a) (λi _ hq=>by rw [YR,hq]; rfl) (λi _ hq=>by rw [YR,hq]; rfl) h
theorem YQ {a:(Nat->Int)×(Nat->Int)} {i:Nat}:(Yv a0 n f i a).sem=sel (Bi n a.1 (λ_=>true) 12 i) (some (.inr (Kr a0 n f i a))) (some (.inl a)):=rfl
theorem ApR {a:(Nat->Int)×(Nat->Int)} (h:isN (Bh (Bi n a.1 (λ_=>true) 12) n 0)=true):BR (Yv a0 n f) (Pa a0 n f) n 0 a=some (Pa a0 n f a):=SI (acc:=λ_=>a) (x:=λi=>Kr a0 n f i a) (λi _ hq=>by rw [YQ,hq]; rfl) (λi _ hq=>by rw [YQ,hq]; rfl) h
theorem ApQ {a:(Nat->Int)×(Nat->Int)} (h:isN (Bh (Bi n a.1 (λ_=>true) 12) n 0)=false):BR (Yv a0 n f) (Pa a0 n f) n 0 a=some (Kr a0 n f (tO (Bi n a.1 (λ_=>true) 12) n) a):=SH (acc:=λ_=>a) (x:=λi=>Kr a0 n f i a) (λi _ hq=>by rw [YQ,hq]; rfl) (λi _ hq=>by rw [YQ,hq]; rfl) h
end
def C52 (a0:Int) (n:Nat) (f:Nat->E6):AE:=.br (ilt (ofNat n) 2) (.leaf ((.tup [iV 40,iV 0]),[])) (.br (ilt 16 (ofNat n)) (.leaf ((.tup [iV 40,iV 0]),[])) (.br (isN (Bh (DF a0 f) n 0)) (.br (isN (Bh (Gr n f) n 0)) (.br (ilt (Ia n f) 2) (.leaf ((.tup [iV 42,iV 0]),[])) (.br (ilt (IL n f) 2) (.leaf ((.tup [iV 43,iV 0]),[])) (.br (isN (Bh (Bi n (pM n f) (λi=>isW (f i)) 2) n 0)) (.br (isN (Bh (Bi n (pO n f) (λ_=>true) 12) n 0)) (.leaf ((.tup [iV 0,iV 0]),[])) (.leaf ((.tup [iV 45,nO (Bi n (pO n f) (λ_=>true) 12) n]),[]))) (.leaf ((.tup [iV 44,nO (Bi n (pM n f) (λi=>isW (f i)) 2) n]),[]))))) (.leaf ((.tup [iV 41,nO (Gr n f) n]),[]))) (.br (ieq (GU a0 (f (tO (DF a0 f) n))) 0) (.leaf ((.tup [iV 5,nO (DF a0 f) n]),[])) (.leaf ((.tup [iV 30,nO (DF a0 f) n]),[])))))
theorem Ag9 (a0:Int) (n:Nat) (f:Nat->E6):(C52 a0 n f).sem=some (.tup [iV (My a0 n f).1,iV (My a0 n f).2],[]):=by
 unfold C52 My HY PW SS crR nO tO;cases ilt (ofNat n) 2 with
 | true=>rfl
 | false =>
  cases ilt 16 (ofNat n) with
  | true=>rfl
  | false =>
   cases Bh (DF a0 f) n 0 with
   | some t =>show sel (ieq (GU a0 (f t)) 0) _ _=_;cases e:ieq (GU a0 (f t)) 0 <;> simp only [e] <;> rfl
   | none =>
    cases Bh (Gr n f) n 0 with
    | some t=>rfl
    | none =>
     show sel (ilt (Ia n f) 2) _ _=some (V.tup [iV (match ilt (Ia n f) 2,ilt (IL n f) 2 with
      | true,_=>((42:Int),(0:Int))
      | false,true=>(43,0)
      | false,false=>_).1,iV (match ilt (Ia n f) 2,ilt (IL n f) 2 with
      | true,_=>((42:Int),(0:Int))
      | false,true=>(43,0)
      | false,false=>_).2],[])
     cases ilt (Ia n f) 2 with
     | true=>rfl
     | false =>
      cases ilt (IL n f) 2 with
      | true=>rfl
      | false =>
       cases Bh (Bi n (AG (λk=>AN (f k)) n) (λi=>isW (f i)) 2) n 0 with
       | some t=>rfl
       | none=>cases Bh (Bi n (AG (λk=>AB (f k)) n) (λ_=>true) 12) n 0 <;> rfl
def AhL (a:Int) (C:AE):AE:=.br (ieq a 1) C (.br (ieq a 2) C (.leaf (.tup [iV 1,iV 0],[])))
theorem QY {a:Int} {n:Nat} {f:Nat->E6} {C:AE} (h:C.sem=some (.tup [iV (My a n f).1,iV (My a n f).2],[])):(AhL a C).sem=some (.tup [iV (Ns a n f).1,iV (Ns a n f).2],[]):=by
 unfold AhL Ns;cases ieq a 1 with
 | true=>exact h
 | false =>
  cases ieq a 2 with
  | true=>exact h
  | false=>rfl
theorem p49:Ax Tryz.prog Gl 52 Nr:=by
 refine Aj A7 mixed Tryz.func52 (by kernel_rfl) (by kernel_rfl) λvs v h' h=>?_;unfold Nr at h;split at h
 ·rename_i a0 u
  obtain ⟨n,f,ha,h1⟩:=Co h;obtain ⟨hF,hq⟩:=Ad h1;have:=Ab hq;simp only [Prod.mk.injEq] at this;obtain ⟨rfl,rfl⟩:=this;have hn:n <= 4611686018427387904:=Ef (Ga hF);have hx:=D2 tb49_ok OA (G:=Gl);have w:=λ(hK:BI a0=true)=>show DK (λa=>a) (C52 a0 n f) _ from .c (λh1=>.r 3 h1 <| .k eT <| .l) λh1=>.r 3 h1 <| .c (λh2=>.k h2 <| .l) λh2=>.k h2 <| .c (λh3=>.a (r52 (askL OA) a0 n f hn (j:=λ_=>.und) (ApX hK hn h3)) <| .c (λh4=>.a (Ahi (askL OA) a0 n f hn (j:=λ_=>.und) (ApW (a:=Aoh n f) hn h4)) <| .c (λh5=>.k h5 <| .l) λh5=>.k h5 <| .c (λh6=>.k h6 <| .l) λh6=>.k h6 <| .k (eL n) <| .k hF <| .k (eL n) <| .k hF <| .c (λh7=>.a (Ahh (askL OA) a0 n f hn (j:=λ_=>.und) (ApU (a:=Agv n f) h7)) <| .c (λh8=>.a (Ahg (askL OA) a0 n f hn (j:=λ_=>.und) (ApR (a:=Agv n f) h8)) <| .l) λh8=>.a (Ahg (askL OA) a0 n f hn (j:=λ_=>.und) (ApQ (a:=Agv n f) h8)) <| .l) λh7=>.a (Ahh (askL OA) a0 n f hn (j:=λ_=>.und) (ApT (a:=Agv n f) h7)) <| .l) λh4=>.a (Ahi (askL OA) a0 n f hn (j:=λ_=>.und) (ApV (a:=Aoh n f) hn h4)) <| .l) λh3=>.c (λg=>.a (r52 (askL OA) a0 n f hn (j:=λ_=>.und) (ApZ hK hn h3 g)) .l) λg=>.a (r52 (askL OA) a0 n f hn (j:=λ_=>.und) (ApY hK hn h3 g)) .l
  exact ⟨_,cxA Gl tb49 OA,_,Xy ha,rfl,hx.1,hx.2,DK.of (QY (Ag9 a0 n f)) (.c (λh1=>.k (eN h1) <| .k (eN h1) <| .k (eN h1) <| .k eF (w (kn1 h1))) λh1=>.k (eN h1) <| .k (eN h1) <| .k (eN h1) <| .c (λh2=>.k (eN h2) (w (kn2 h2))) λh2=>.k (eN h2) .l) (by kernel_rfl),Av.refl _⟩
 ·cases h
noncomputable def Al7:AK:=(110,Akw)::(111,Xp)::(116,Ws)::(115,Xo)::[]
theorem Ae0:Aq Tryz.prog Gl Al7:=.cons p86 <| .cons p87 <| .cons p92 <| .cons p91 .nil
def AnL (a:Int) (n:Nat) (f:Nat->E6):Int:=(HY a n f).1
def Aqb (a:Int) (n:Nat) (f:Nat->E6):Int:=(HY a n f).2
def crI (n:Nat) (l:Nat->Int) (c:Nat->Bool) (q:Int):Int:=(crR n l c q).1
def crB (n:Nat) (l:Nat->Int) (c:Nat->Bool) (q:Int):Bool:=(crR n l c q).2
theorem Um (p:Nat->Bool) (n:Nat) (hn:n <= 4611686018427387904):okP n (AG p n)=true:=A0.2 λi hi=>by
 unfold AG;cases decide (i<n) with
 | false=>rfl
 | true =>
  cases decide (An p i=An p n) with
  | true=>rfl
  | false =>have:=Bm p i;exact SG (by omega)
def C84 (a0:Int) (n:Nat) (f:Nat->E6):AE:=.br (ilt (ofNat n) 2) (.leaf ((.tup [iV 40,iV 0]),[])) (.br (ilt 16 (ofNat n)) (.leaf ((.tup [iV 40,iV 0]),[])) (.br (ieq (AnL a0 n f) 0) (.br (ilt (Ia n f) 2) (.leaf ((.tup [iV 42,iV 0]),[])) (.br (ilt (IL n f) 2) (.leaf ((.tup [iV 43,iV 0]),[])) (.br (crB n (AG (λk=>AN (f k)) n) (λi=>isW (f i)) 2) (.leaf ((.tup [iV 44,iV (crI n (AG (λk=>AN (f k)) n) (λi=>isW (f i)) 2)]),[])) (.br (crB n (AG (λk=>AB (f k)) n) (λ_=>true) 12) (.leaf ((.tup [iV 45,iV (crI n (AG (λk=>AB (f k)) n) (λ_=>true) 12)]),[])) (.leaf ((.tup [iV 0,iV 0]),[])))))) (.leaf ((.tup [iV (AnL a0 n f),iV (Aqb a0 n f)]),[]))))
theorem Ag6 (a0:Int) (n:Nat) (f:Nat->E6):(C84 a0 n f).sem=some (.tup [iV (My a0 n f).1,iV (My a0 n f).2],[]):=by
 unfold C84 My PW SS;cases ilt (ofNat n) 2 with
 | true=>rfl
 | false =>
  cases ilt 16 (ofNat n) with
  | true=>rfl
  | false =>
   show sel (ieq (HY a0 n f).1 0) _ _=_;cases e:ieq (HY a0 n f).1 0 with
   | false=>rfl
   | true =>
    show sel (ilt (Ia n f) 2) _ _=some (V.tup [iV (match ilt (Ia n f) 2,ilt (IL n f) 2 with
     | true,_=>((42:Int),(0:Int))
     | false,true=>(43,0)
     | false,false=>_).1,iV (match ilt (Ia n f) 2,ilt (IL n f) 2 with
     | true,_=>((42:Int),(0:Int))
     | false,true=>(43,0)
     | false,false=>_).2],[])
    cases ilt (Ia n f) 2 with
    | true=>rfl
    | false =>
     cases ilt (IL n f) 2 with
     | true=>rfl
     | false =>
      show sel (crR n (AG (λk=>AN (f k)) n) (λi=>isW (f i)) 2).2 (some (V.tup [iV 44,iV (crR n (AG (λk=>AN (f k)) n) (λi=>isW (f i)) 2).1],[])) (sel (crR n (AG (λk=>AB (f k)) n) (λ_=>true) 12).2 (some (V.tup [iV 45,iV (crR n (AG (λk=>AB (f k)) n) (λ_=>true) 12).1],[])) _)=_;cases crR n (AG (λk=>AN (f k)) n) (λi=>isW (f i)) 2 with
      | mk x b =>
       cases b with
       | true=>rfl
       | false =>
        cases crR n (AG (λk=>AB (f k)) n) (λ_=>true) 12 with
        | mk x b=>cases b <;> rfl
theorem p48:Ax Tryz.prog Gl 84 Nr:=by
 refine Aj A7 mixed Tryz.func84 (by kernel_rfl) (by kernel_rfl) λvs v h' h=>?_;unfold Nr at h;split at h
 ·rename_i a0 u
  obtain ⟨n,f,ha,h1⟩:=Co h;obtain ⟨hF,hq⟩:=Ad h1;have:=Ab hq;simp only [Prod.mk.injEq] at this;obtain ⟨rfl,rfl⟩:=this;have hn:n <= 4611686018427387904:=Ef (Ga hF);have hk:E8 8 (ofNat n) (ofNat n)=true:=ApH hF;have hx:=AH Ae0 [] (G:=Gl);have w:DK (λa=>a) (C84 a0 n f) _:=.c (λh1=>.r 4 h1 <| .k eT <| .l) λh1=>.r 4 h1 <| .c (λh2=>.k h2 <| .l) λh2=>.k h2 <| .k (eL n) <| .k hF <| .c (λh3=>.k (eN h3) <| .k (eL n) <| .k (decide_eq_true hn) <| .c (λh4=>.k h4 <| .l) λh4=>.k h4 <| .k (eL n) <| .k (decide_eq_true hn) <| .c (λh5=>.k h5 <| .l) λh5=>.k h5 <| .k (eL n) <| .k hk <| .r 2 (eL n) <| .k (eJ n) <| .k (decide_eq_true hn) <| .k (Um (λk=>AN (f k)) n hn) <| .c (λh6=>.k h6 <| .l) λh6=>.k h6 <| .k (eL n) <| .k hk <| .k (eL n) <| .k (decide_eq_true hn) <| .k (Um (λk=>AB (f k)) n hn) <| .c (λh7=>.k h7 <| .l) λh7=>.k h7 <| .l) λh3=>.k (eN h3) <| .l
  exact ⟨_,AA Gl Al7 [],_,Xy ha,rfl,hx.1,hx.2,DK.of (QY (Ag6 a0 n f)) (.c (λh1=>.k (eN h1) <| .k (eN h1) <| .k (eN h1) <| .k eF w) λh1=>.k (eN h1) <| .k (eN h1) <| .k (eN h1) <| .c (λh2=>.k (eN h2) w) λh2=>.k (eN h2) .l) (by kernel_rfl),Av.refl _⟩
 ·cases h
end Go.Proofs.YtkgdhhieomndeaaGreatDoor.Ed
namespace Go.Proofs.YtkgdhhieomndeaaGreatDoor.Ed
open Go.Sy
def BK (a:Int) (n:Nat) (f:Nat->E6):Int:=(Ns a n f).1
def D4 (a:Int) (n:Nat) (f:Nat->E6):Int:=(Ns a n f).2
end Go.Proofs.YtkgdhhieomndeaaGreatDoor.Ed
