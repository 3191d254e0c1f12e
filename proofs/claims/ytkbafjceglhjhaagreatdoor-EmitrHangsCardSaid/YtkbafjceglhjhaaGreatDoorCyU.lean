/-
  Check, the program's and the document's: one answer. No conditions.
-/
import Derived.Test.YtkbafjceglhjhaaGreatDoorEdX
import Derived.Test.YtkbafjceglhjhaaGreatDoorEdY
import Derived.Test.YtkbafjceglhjhaaGreatDoorCyT
namespace Go.Proofs.YtkbafjceglhjhaaGreatDoor.Ed
open Go.Sy
open Int (ofNat)
noncomputable def VV:AK:=(121,BI λe=>iV (AZ e))::(151,ap2 gI toE λa e=>out (MM a e))::(152,BI λe=>bV (Ay e))::(153,BI λe=>bV (A4 e))::(154,P0)::(155,Pz)::(156,Zz)::[]
theorem Aak:Ar Tryz.prog Gl VV:=.cons p29 <| .cons p33 <| .cons p60 <| .cons p61 <| .cons p94 <| .cons p95 <| .cons p96 .nil
def HJ (n:Nat) (f:Nat->E6):Int:=ofNat (Ai (λk=>Ay (f k)) n)
def IU (n:Nat) (f:Nat->E6):Int:=ofNat (Ai (λk=>A4 (f k)) n)
def Up (n:Nat) (f:Nat->E6):Int×Int :=
 match crR n (A1 (λk=>A4 (f k)) n) (λi=>isW (f i)) 2 with
 | (i,true)=>(44,i)
 | (_,false)=>match crR n (A1 (λk=>Ay (f k)) n) (λ_=>true) 12 with
   | (i,true)=>(45,i)
   | (_,false)=>(0,0)
def Sm (n:Nat) (f:Nat->E6):Int×Int :=
 match ilt (HJ n f) 2,ilt (IU n f) 2 with
 | true,_=>(42,0)
 | false,true=>(43,0)
 | false,false=>Up n f
def L9 (a:Int) (n:Nat) (f:Nat->E6):Int×Int :=
 match ilt (ofNat n) 2,ilt 16 (ofNat n) with
 | true,_=>(40,0)
 | false,true=>(40,0)
 | false,false=>match HI a n f,ieq (HI a n f).1 0 with
  | r,false=>r
  | _,true=>Sm n f
def Ny (a:Int) (n:Nat) (f:Nat->E6):Int×Int :=
 match ieq a 1,ieq a 2 with
 | false,false=>(1,0)
 | _,_=>L9 a n f
def WN:List V->AB
 | [.val (.int .i64 a),v]=>apL v λn f=>.br (CJ n) (out (.tup [iV (Ny a n f).1,iV (Ny a n f).2])) .fail
 | _=>.fail
theorem V9 {a:Int} {n:Nat} {f:Nat->E6} (h:ieq a 1=true ∨ ieq a 2=true):Ny a n f=L9 a n f:=by
 unfold Ny;rcases h with h | h
 ·rw [h]
 ·rw [h]
  cases ieq a 1 <;> rfl
theorem AiT {n:Nat} (h:CJ n=true):Eu 8 (ofNat n) (ofNat n)=true:=by
 have:=IQ h;simp only [Eu,Bool.and_eq_true,decide_eq_true_eq,Int.ofNat_eq_natCast];omega
theorem AeY {i n:Nat} (h:i<n) (hn:n <= 4611686018427387904):Aj (ile 0 (Al (wr .i64 (Ah (ofNat i) 1)) (ofNat n))) (ilt (Al (wr .i64 (Ah (ofNat i) 1)) (ofNat n)) (ofNat n))=true:=by
 rw [M7 h hn];exact Ae (Nat.mod_lt _ (by omega))
def Ahw:Lp:=⟨bmK 133 0 [0,1,4,5,6,7,8,9],0,bmK 133 0 [1,4,5,6,7,8],0,4611686018427387905⟩
def S52 (a0:Int) (n:Nat) (f:Nat->E6) (c:Int) (a:Int×Int) (j:Nat->V):St:=⟨jsV 133 0 j [(0,iV a0),(1,.sl 6 n (λi=>eV (f i))),(4,iV 0),(5,iV 0),(6,nV n),(7,iV a.1),(8,iV a.2),(9,iV c)],[]⟩
noncomputable def B52 (L:LT):St->T (Ex×St):=λst=>AI tab ⟨Az VV,L,Gl⟩ (A0 Tryz.f107 0) 0 st
def Xa (a0:Int) (n:Nat) (f:Nat->E6) (i:Nat) (a:Int×Int):Ex×St:=(.rt,⟨jsV 133 0 Ac [(1,.sl 6 n (λi=>eV (f i))),(4,iV 5),(5,nV i),(6,nV n),(7,iV a.1),(8,iV a.2)],[]⟩)
def WZ (a0:Int) (n:Nat) (f:Nat->E6) (i:Nat) (a:Int×Int):Ex×St:=(.rt,⟨jsV 133 0 Ac [(1,.sl 6 n (λi=>eV (f i))),(4,iV 30),(5,nV i),(6,nV n),(7,iV a.1),(8,iV a.2)],[]⟩)
def g52 (a0:Int) (n:Nat) (f:Nat->E6) (i:Nat) (a:Int×Int):T ((Int×Int) ⊕ (Ex×St)):=.br (ieq (AZ (f i)) 0) (.br (L6 a0 (f i)) (.br (Ay (f i)) (.br (A4 (f i)) (.leaf (.inl ((wr .i64 (Ah a.1 1)),wr .i64 (Ah a.2 1)))) (.leaf (.inl ((wr .i64 (Ah a.1 1)),a.2)))) (.br (A4 (f i)) (.leaf (.inl (a.1,wr .i64 (Ah a.2 1)))) (.leaf (.inl (a.1,a.2))))) (.leaf (.inr (Xa a0 n f i a)))) (.leaf (.inr (WZ a0 n f i a)))
def TT (a0:Int) (n:Nat) (f:Nat->E6) (a:Int×Int):Ex×St:=(.ex 0,⟨jsV 133 0 Ac [(1,.sl 6 n (λi=>eV (f i))),(4,iV 0),(5,iV 0),(6,nV n),(7,iV a.1),(8,iV a.2)],[]⟩)
theorem r52 (L:LT) (a0:Int) (n:Nat) (f:Nat->E6)  (hn:n <= 4611686018427387904) {e:Ex×St} {a:Int×Int} {j:Nat->V} (h:BQ (g52 a0 n f) (TT a0 n f) n 0 a=some e):(A3 (B52 L) Ahw 4611686018427387905 (S52 a0 n f 0 a j)).sem=some (exR e) :=
 AY BB hn (λi a j r hi h=>DK.ok (L:=goR (S52 a0 n f) exR i) (.k (ofNat_lt hi) <| .k (Ae hi) <| .c (λh1=>.k (eN h1) <| .k (Ae hi) <| .c (λh2=>.k (eN h2) <| .k (Ae hi) <| .c (λh3=>.k h3 <| .k (Ae hi) <| .c (λh4=>.k h4 <| .l) λh4=>.k h4 <| .l) λh3=>.k h3 <| .k (Ae hi) <| .c (λh5=>.k h5 <| .l) λh5=>.k h5 <| .l) λh2=>.k (eN h2) <| .l) λh1=>.k (eN h1) <| .l) (by kernel_rfl) h) (λa j=>DK.ok (C:=.leaf (TT a0 n f a)) (L:=exR) (.k (Av (Nat.le_refl n)) .l) (by kernel_rfl) rfl) (Nat.zero_add _).symm (Nat.lt_succ_of_le hn) h
def Yy:Lp:=⟨bmK 133 0 [1,4,5,6,7,8,12],0,bmK 133 0 [1,4,5,6,7,8],0,4611686018427387905⟩
def Adp (a0:Int) (n:Nat) (f:Nat->E6) (c:Int) (a:Int×Int) (j:Nat->V):St:=⟨jsV 133 0 j [(1,.sl 6 n (λi=>eV (f i))),(4,iV 0),(5,iV 0),(6,nV n),(7,iV a.1),(8,iV a.2),(12,iV c)],[]⟩
noncomputable def Aiv (L:LT):St->T (Ex×St):=λst=>AI tab ⟨Az VV,L,Gl⟩ (A0 Tryz.f107 2) 2 st
def Jh (a0:Int) (n:Nat) (f:Nat->E6) (i:Nat) (a:Int×Int):Ex×St:=(.rt,⟨jsV 133 0 Ac [(1,.sl 6 n (λi=>eV (f i))),(4,iV 41),(5,nV i),(6,nV n),(7,iV a.1),(8,iV a.2)],[]⟩)
def RJ (a0:Int) (n:Nat) (f:Nat->E6) (i:Nat) (a:Int×Int):T ((Int×Int) ⊕ (Ex×St)):=.br (ieq (f i).dst (f (toN (Al (wr .i64 (Ah (ofNat i) 1)) (ofNat n)))).src) (.leaf (.inl (a.1,a.2))) (.leaf (.inr (Jh a0 n f i a)))
def Nh (a0:Int) (n:Nat) (f:Nat->E6) (a:Int×Int):Ex×St:=(.ex 2,⟨jsV 133 0 Ac [(1,.sl 6 n (λi=>eV (f i))),(4,iV 0),(5,iV 0),(6,nV n),(7,iV a.1),(8,iV a.2)],[]⟩)
theorem Ac4 (L:LT) (a0:Int) (n:Nat) (f:Nat->E6)  (hn:n <= 4611686018427387904) {e:Ex×St} {a:Int×Int} {j:Nat->V} (h:BQ (RJ a0 n f) (Nh a0 n f) n 0 a=some e):(A3 (Aiv L) Yy 4611686018427387905 (Adp a0 n f 0 a j)).sem=some (exR e) :=
 AY BB hn (λi a j r hi h=>DK.ok (L:=goR (Adp a0 n f) exR i) (.k (ofNat_lt hi) <| .k (Ae hi) <| .k (J3 hi) <| .k (AeY hi hn) <| .c (λh1=>.k (eN h1) <| .l) λh1=>.k (eN h1) <| .l) (by kernel_rfl) h) (λa j=>DK.ok (C:=.leaf (Nh a0 n f a)) (L:=exR) (.k (Av (Nat.le_refl n)) .l) (by kernel_rfl) rfl) (Nat.zero_add _).symm (Nat.lt_succ_of_le hn) h
def Yx:Lp:=⟨bmK 133 0 [1,4,5,6,13,14,15],2,bmK 133 0 [1,4,5,6,13],2,4611686018427387905⟩
def Ado (a0:Int) (n:Nat) (f:Nat->E6) (c:Int) (a:(Nat->Int)×(Nat->Int)) (j:Nat->V):St:=⟨jsV 133 0 j [(1,.sl 6 n (λi=>eV (f i))),(4,iV 0),(5,iV 0),(6,nV n),(13,.ref 0),(14,.ref 1),(15,iV c)],[.row 3 1 n (λk=>iV (a.1 k)),.row 3 1 n (λk=>iV (a.2 k))]⟩
noncomputable def Aiu (L:LT):St->T (Ex×St):=λst=>AI tab ⟨Az VV,L,Gl⟩ (A0 Tryz.f107 4) 4 st
def Jg (a0:Int) (n:Nat) (f:Nat->E6) (i:Nat) (a:(Nat->Int)×(Nat->Int)):Ex×St:=(.rt,⟨jsV 133 0 Ac [(1,.sl 6 n (λi=>eV (f i))),(4,iV 44),(5,nV i),(6,nV n),(13,.ref 0)],[.row 3 1 n (λk=>iV (a.1 k)),.row 3 1 n (λk=>iV (a.2 k))]⟩)
def Vv (a0:Int) (n:Nat) (f:Nat->E6) (i:Nat) (a:(Nat->Int)×(Nat->Int)):T (((Nat->Int)×(Nat->Int)) ⊕ (Ex×St)):=.br (ieq (f i).src 2) (.br (ilt 2 (Nx n a.2 (λi=>bor (AL true) (isW (f i))) (a.2 i))) (.leaf (.inr (Jg a0 n f i a))) (.leaf (.inl (a.1,a.2)))) (.leaf (.inl (a.1,a.2)))
def Ng (a0:Int) (n:Nat) (f:Nat->E6) (a:(Nat->Int)×(Nat->Int)):Ex×St:=(.ex 4,⟨jsV 133 0 Ac [(1,.sl 6 n (λi=>eV (f i))),(4,iV 0),(5,iV 0),(6,nV n),(13,.ref 0)],[.row 3 1 n (λk=>iV (a.1 k)),.row 3 1 n (λk=>iV (a.2 k))]⟩)
theorem Ac3 (L:LT) (a0:Int) (n:Nat) (f:Nat->E6)  (hn:n <= 4611686018427387904) {e:Ex×St} {a:(Nat->Int)×(Nat->Int)} {j:Nat->V} (h:BQ (Vv a0 n f) (Ng a0 n f) n 0 a=some e):(A3 (Aiu L) Yx 4611686018427387905 (Ado a0 n f 0 a j)).sem=some (exR e) :=
 AY BB hn (λi a j r hi h=>DK.ok (L:=goR (Ado a0 n f) exR i) (.k (ofNat_lt hi) <| .k (Ae hi) <| .c (λh1=>.r 5 h1 <| .k (Ae hi) <| .k h1 <| .k (decide_eq_true hi) <| .k h1 <| .r 2 (eL n) <| .k (eJ n) <| .k (decide_eq_true hn) <| .r 2 h1 <| .c (λh2=>.k h2 <| .l) λh2=>.k h2 <| .l) λh1=>.r 9 h1 <| .k eF <| .l) (by kernel_rfl) h) (λa j=>DK.ok (C:=.leaf (Ng a0 n f a)) (L:=exR) (.k (Av (Nat.le_refl n)) .l) (by kernel_rfl) rfl) (Nat.zero_add _).symm (Nat.lt_succ_of_le hn) h
def Yw:Lp:=⟨bmK 133 0 [1,4,5,6,13,16],2,bmK 133 0 [4,5],0,4611686018427387905⟩
def Adn (a0:Int) (n:Nat) (f:Nat->E6) (c:Int) (a:(Nat->Int)×(Nat->Int)) (j:Nat->V):St:=⟨jsV 133 0 j [(1,.sl 6 n (λi=>eV (f i))),(4,iV 0),(5,iV 0),(6,nV n),(13,.ref 0),(16,iV c)],[.row 3 1 n (λk=>iV (a.1 k)),.row 3 1 n (λk=>iV (a.2 k))]⟩
noncomputable def Ait (L:LT):St->T (Ex×St):=λst=>AI tab ⟨Az VV,L,Gl⟩ (A0 Tryz.f107 6) 6 st
def Jf (a0:Int) (n:Nat) (f:Nat->E6) (i:Nat) (a:(Nat->Int)×(Nat->Int)):Ex×St:=(.rt,⟨jsV 133 0 Ac [(4,iV 45),(5,nV i)],[]⟩)
def Vu (a0:Int) (n:Nat) (f:Nat->E6) (i:Nat) (a:(Nat->Int)×(Nat->Int)):T (((Nat->Int)×(Nat->Int)) ⊕ (Ex×St)):=.br (ilt 12 (Nx n a.1 (λi=>bor (AL false) (isW (f i))) (a.1 i))) (.leaf (.inr (Jf a0 n f i a))) (.leaf (.inl (a.1,a.2)))
def Nf (a0:Int) (n:Nat) (f:Nat->E6) (a:(Nat->Int)×(Nat->Int)):Ex×St:=(.ex 6,⟨jsV 133 0 Ac [(4,iV 0),(5,iV 0)],[]⟩)
theorem Ac2 (L:LT) (a0:Int) (n:Nat) (f:Nat->E6)  (hn:n <= 4611686018427387904) {e:Ex×St} {a:(Nat->Int)×(Nat->Int)} {j:Nat->V} (h:BQ (Vu a0 n f) (Nf a0 n f) n 0 a=some e):(A3 (Ait L) Yw 4611686018427387905 (Adn a0 n f 0 a j)).sem=some (exR e) :=
 AY BB hn (λi a j r hi h=>DK.ok (L:=goR (Adn a0 n f) exR i) (.k (ofNat_lt hi) <| .k (Ae hi) <| .k (decide_eq_true hi) <| .r 2 (eL n) <| .k (eJ n) <| .k (decide_eq_true hn) <| .c (λh1=>.k h1 <| .l) λh1=>.k h1 <| .l) (by kernel_rfl) h) (λa j=>DK.ok (C:=.leaf (Nf a0 n f a)) (L:=exR) (.k (Av (Nat.le_refl n)) .l) (by kernel_rfl) rfl) (Nat.zero_add _).symm (Nat.lt_succ_of_le hn) h
def MB:List (Nat×Lp×List (Nat×(Nat->V))):=[(0,Ahw,[]),(2,Yy,[]),(4,Yx,[]),(6,Yw,[])]
abbrev pO (n:Nat) (f:Nat->E6):Nat->Int:=A1 (λk=>Ay (f k)) n
abbrev pM (n:Nat) (f:Nat->E6):Nat->Int:=A1 (λk=>A4 (f k)) n
abbrev Aim (n:Nat) (f:Nat->E6):Int×Int:=(HJ n f,IU n f)
abbrev AbR (n:Nat) (f:Nat->E6):(Nat->Int)×(Nat->Int):=(pO n f,pM n f)
theorem Y5 {a:Int} {e:E6} (h:Bu a=true):Gg a e=AZ e:=by unfold Gg; rw [h]; rfl
theorem kn1 {a:Int} (h:ieq a 1=true):Bu a=true:=by unfold Bu; rw [h]; rfl
theorem kn2 {a:Int} (h:ieq a 2=true):Bu a=true:=by unfold Bu; rw [h]; cases ieq a 1 <;> rfl
section
variable {a0:Int} {n:Nat} {f:Nat->E6}
def NT (f:Nat->E6) (i:Nat):Int×Int:=(ofNat (Ai (λk=>Ay (f k)) i),ofNat (Ai (λk=>A4 (f k)) i))
def Z9 (a0:Int) (n:Nat) (f:Nat->E6) (i:Nat):Ex×St:=sel (ieq (Gg a0 (f i)) 0) (Xa a0 n f i (NT f i)) (WZ a0 n f i (NT f i))
theorem c52 (hK:Bu a0=true) (hn:n <= 4611686018427387904) {i:Nat} (hi:i<n) (h:Ds a0 f i=false):(g52 a0 n f i (NT f i)).sem=some (.inl (NT f (i+1))):=by
 have h1:=B5 (λk=>Ay (f k)) i;have h2:=B5 (λk=>A4 (f k)) i;unfold Ds at h;rw [Y5 hK] at h;have w1:=E2 (show Ai (λk=>Ay (f k)) i<n by omega) hn;have w2:=E2 (show Ai (λk=>A4 (f k)) i<n by omega) hn;show sel (ieq (AZ (f i)) 0) _ _=_;cases e1:ieq (AZ (f i)) 0 with
 | false=>rw [e1] at h; cases h
 | true =>
  show sel (L6 a0 (f i)) _ _=_;cases e2:L6 a0 (f i) with
  | false=>rw [e1,e2] at h; cases h
  | true =>
   show sel (Ay (f i)) (sel (A4 (f i)) (some _) (some _)) (sel (A4 (f i)) (some _) (some _))=some (Sum.inl (ofNat (match Ay (f i) with
    | true=>Ai (λk=>Ay (f k)) i+1
    | false=>Ai (λk=>Ay (f k)) i),ofNat (match A4 (f i) with
    | true=>Ai (λk=>A4 (f k)) i+1
    | false=>Ai (λk=>A4 (f k)) i)))
   cases Ay (f i) <;> cases A4 (f i) <;> simp only [sel,NT,w1,w2] <;> rfl
theorem t52 (hK:Bu a0=true) {i:Nat} (h:Ds a0 f i=true):(g52 a0 n f i (NT f i)).sem=some (.inr (Z9 a0 n f i)):=by
 unfold Ds at h;unfold Z9;rw [Y5 hK] at h ⊢;show sel (ieq (AZ (f i)) 0) _ _=_;cases e1:ieq (AZ (f i)) 0 with
 | false=>rfl
 | true =>
  show sel (L6 a0 (f i)) _ _=_;cases e2:L6 a0 (f i) with
  | false=>rfl
  | true=>rw [e1,e2] at h; cases h
theorem Ajf (hK:Bu a0=true) (hn:n <= 4611686018427387904) (h:isN (AU (Ds a0 f) n 0)=true):BQ (g52 a0 n f) (TT a0 n f) n 0 (0,0)=some (TT a0 n f (HJ n f,IU n f)):=Nk (acc:=NT f) (λ_ hi=>c52 hK hn hi) (λ_ _=>t52 hK) h
theorem AhK (hK:Bu a0=true) (hn:n <= 4611686018427387904) (h:isN (AU (Ds a0 f) n 0)=false):BQ (g52 a0 n f) (TT a0 n f) n 0 (0,0)=some (Z9 a0 n f (tO (Ds a0 f) n)):=Nj (acc:=NT f) (λ_ hi=>c52 hK hn hi) (λ_ _=>t52 hK) h
theorem Ajh (hK:Bu a0=true) (hn:n <= 4611686018427387904) (h:isN (AU (Ds a0 f) n 0)=false) (g:ieq (Gg a0 (f (tO (Ds a0 f) n))) 0=true):BQ (g52 a0 n f) (TT a0 n f) n 0 (0,0)=some (Xa a0 n f (tO (Ds a0 f) n) (NT f (tO (Ds a0 f) n))):=by rw [AhK hK hn h,Z9,g]; rfl
theorem Ajg (hK:Bu a0=true) (hn:n <= 4611686018427387904) (h:isN (AU (Ds a0 f) n 0)=false) (g:ieq (Gg a0 (f (tO (Ds a0 f) n))) 0=false):BQ (g52 a0 n f) (TT a0 n f) n 0 (0,0)=some (WZ a0 n f (tO (Ds a0 f) n) (NT f (tO (Ds a0 f) n))):=by rw [AhK hK hn h,Z9,g]; rfl
theorem VD (hn:n <= 4611686018427387904) {a:Int×Int} {i:Nat} (hi:i<n):(RJ a0 n f i a).sem=sel (FA n f i) (some (.inr (Jh a0 n f i a))) (some (.inl a)):=by
 unfold RJ FA;rw [M7 hi hn,show toN (ofNat ((i+1) % n))=(i+1) % n from rfl];cases ieq (f i).dst (f ((i+1) % n)).src <;> rfl
theorem Aje (hn:n <= 4611686018427387904) {a:Int×Int} (h:isN (AU (FA n f) n 0)=true):BQ (RJ a0 n f) (Nh a0 n f) n 0 a=some (Nh a0 n f a):=Nk (acc:=λ_=>a) (x:=λi=>Jh a0 n f i a) (λi hi hq=>by rw [VD hn hi,hq]; rfl) (λi hi hq=>by rw [VD hn hi,hq]; rfl) h
theorem Ajd (hn:n <= 4611686018427387904) {a:Int×Int} (h:isN (AU (FA n f) n 0)=false):BQ (RJ a0 n f) (Nh a0 n f) n 0 a=some (Jh a0 n f (tO (FA n f) n) a):=Nj (acc:=λ_=>a) (x:=λi=>Jh a0 n f i a) (λi hi hq=>by rw [VD hn hi,hq]; rfl) (λi hi hq=>by rw [VD hn hi,hq]; rfl) h
theorem VC {a:(Nat->Int)×(Nat->Int)} {i:Nat}:(Vv a0 n f i a).sem=sel (AP n a.2 (λi=>isW (f i)) 2 i) (some (.inr (Jg a0 n f i a))) (some (.inl a)):=by
 show sel (isW (f i)) _ _=sel (Aj (isW (f i)) _) _ _;cases isW (f i) <;> rfl
theorem Ajc {a:(Nat->Int)×(Nat->Int)} (h:isN (AU (AP n a.2 (λi=>isW (f i)) 2) n 0)=true):BQ (Vv a0 n f) (Ng a0 n f) n 0 a=some (Ng a0 n f a):=Nk (acc:=λ_=>a) (x:=λi=>Jg a0 n f i a) (λi _ hq=>by rw [VC,hq]; rfl) (λi _ hq=>by rw [VC,hq]; rfl) h
theorem Ajb {a:(Nat->Int)×(Nat->Int)} (h:isN (AU (AP n a.2 (λi=>isW (f i)) 2) n 0)=false):BQ (Vv a0 n f) (Ng a0 n f) n 0 a=some (Jg a0 n f (tO (AP n a.2 (λi=>isW (f i)) 2) n) a):=Nj (acc:=λ_=>a) (x:=λi=>Jg a0 n f i a) (λi _ hq=>by rw [VC,hq]; rfl) (λi _ hq=>by rw [VC,hq]; rfl) h
theorem VB {a:(Nat->Int)×(Nat->Int)} {i:Nat}:(Vu a0 n f i a).sem=sel (AP n a.1 (λ_=>true) 12 i) (some (.inr (Jf a0 n f i a))) (some (.inl a)):=rfl
theorem AiZ {a:(Nat->Int)×(Nat->Int)} (h:isN (AU (AP n a.1 (λ_=>true) 12) n 0)=true):BQ (Vu a0 n f) (Nf a0 n f) n 0 a=some (Nf a0 n f a):=Nk (acc:=λ_=>a) (x:=λi=>Jf a0 n f i a) (λi _ hq=>by rw [VB,hq]; rfl) (λi _ hq=>by rw [VB,hq]; rfl) h
theorem AiY {a:(Nat->Int)×(Nat->Int)} (h:isN (AU (AP n a.1 (λ_=>true) 12) n 0)=false):BQ (Vu a0 n f) (Nf a0 n f) n 0 a=some (Jf a0 n f (tO (AP n a.1 (λ_=>true) 12) n) a):=Nj (acc:=λ_=>a) (x:=λi=>Jf a0 n f i a) (λi _ hq=>by rw [VB,hq]; rfl) (λi _ hq=>by rw [VB,hq]; rfl) h
end
def C52 (a0:Int) (n:Nat) (f:Nat->E6):AB:=.br (ilt (ofNat n) 2) (.leaf ((.tup [iV 40,iV 0]),[])) (.br (ilt 16 (ofNat n)) (.leaf ((.tup [iV 40,iV 0]),[])) (.br (isN (AU (Ds a0 f) n 0)) (.br (isN (AU (FA n f) n 0)) (.br (ilt (HJ n f) 2) (.leaf ((.tup [iV 42,iV 0]),[])) (.br (ilt (IU n f) 2) (.leaf ((.tup [iV 43,iV 0]),[])) (.br (isN (AU (AP n (pM n f) (λi=>isW (f i)) 2) n 0)) (.br (isN (AU (AP n (pO n f) (λ_=>true) 12) n 0)) (.leaf ((.tup [iV 0,iV 0]),[])) (.leaf ((.tup [iV 45,nO (AP n (pO n f) (λ_=>true) 12) n]),[]))) (.leaf ((.tup [iV 44,nO (AP n (pM n f) (λi=>isW (f i)) 2) n]),[]))))) (.leaf ((.tup [iV 41,nO (FA n f) n]),[]))) (.br (ieq (Gg a0 (f (tO (Ds a0 f) n))) 0) (.leaf ((.tup [iV 5,nO (Ds a0 f) n]),[])) (.leaf ((.tup [iV 30,nO (Ds a0 f) n]),[])))))
theorem Acf (a0:Int) (n:Nat) (f:Nat->E6):(C52 a0 n f).sem=some (.tup [iV (L9 a0 n f).1,iV (L9 a0 n f).2],[]):=by
 unfold C52 L9 HI Sm Up crR nO tO;cases ilt (ofNat n) 2 with
 | true=>rfl
 | false =>
  cases ilt 16 (ofNat n) with
  | true=>rfl
  | false =>
   cases AU (Ds a0 f) n 0 with
   | some t =>show sel (ieq (Gg a0 (f t)) 0) _ _=_;cases e:ieq (Gg a0 (f t)) 0 <;> simp only [e] <;> rfl
   | none =>
    cases AU (FA n f) n 0 with
    | some t=>rfl
    | none =>
     show sel (ilt (HJ n f) 2) _ _=some (V.tup [iV (match ilt (HJ n f) 2,ilt (IU n f) 2 with
      | true,_=>((42:Int),(0:Int))
      | false,true=>(43,0)
      | false,false=>_).1,iV (match ilt (HJ n f) 2,ilt (IU n f) 2 with
      | true,_=>((42:Int),(0:Int))
      | false,true=>(43,0)
      | false,false=>_).2],[])
     cases ilt (HJ n f) 2 with
     | true=>rfl
     | false =>
      cases ilt (IU n f) 2 with
      | true=>rfl
      | false =>
       cases AU (AP n (A1 (λk=>A4 (f k)) n) (λi=>isW (f i)) 2) n 0 with
       | some t=>rfl
       | none=>cases AU (AP n (A1 (λk=>Ay (f k)) n) (λ_=>true) 12) n 0 <;> rfl
def Adh (a:Int) (C:AB):AB:=.br (ieq a 1) C (.br (ieq a 2) C (.leaf (.tup [iV 1,iV 0],[])))
theorem OS {a:Int} {n:Nat} {f:Nat->E6} {C:AB} (h:C.sem=some (.tup [iV (L9 a n f).1,iV (L9 a n f).2],[])):(Adh a C).sem=some (.tup [iV (Ny a n f).1,iV (Ny a n f).2],[]):=by
 unfold Adh Ny;cases ieq a 1 with
 | true=>exact h
 | false =>
  cases ieq a 2 with
  | true=>exact h
  | false=>rfl
theorem p49:As Tryz.prog Gl 107 WN:=by
 refine Am AA mixed Tryz.func107 (by kernel_rfl) (by kernel_rfl) λvs v h' h=>?_;unfold WN at h;split at h
 ·rename_i a0 u
  obtain ⟨n,f,ha,h1⟩:=Ce h;obtain ⟨hF,hq⟩:=Ab h1;have:=Aa hq;simp only [Prod.mk.injEq] at this;obtain ⟨rfl,rfl⟩:=this;have hn:n <= 4611686018427387904:=DG (Gk hF);have hx:=Bz Aak MB (G:=Gl);have w:=λ(hK:Bu a0=true)=>show DK (λa=>a) (C52 a0 n f) _ from .c (λh1=>.r 3 h1 <| .k eT <| .l) λh1=>.r 3 h1 <| .c (λh2=>.k h2 <| .l) λh2=>.k h2 <| .c (λh3=>.a (r52 (askL MB) a0 n f hn (j:=λ_=>.und) (Ajf hK hn h3)) <| .c (λh4=>.a (Ac4 (askL MB) a0 n f hn (j:=λ_=>.und) (Aje (a:=Aim n f) hn h4)) <| .c (λh5=>.k h5 <| .l) λh5=>.k h5 <| .c (λh6=>.k h6 <| .l) λh6=>.k h6 <| .k (eL n) <| .k hF <| .k (eL n) <| .k hF <| .c (λh7=>.a (Ac3 (askL MB) a0 n f hn (j:=λ_=>.und) (Ajc (a:=AbR n f) h7)) <| .c (λh8=>.a (Ac2 (askL MB) a0 n f hn (j:=λ_=>.und) (AiZ (a:=AbR n f) h8)) <| .l) λh8=>.a (Ac2 (askL MB) a0 n f hn (j:=λ_=>.und) (AiY (a:=AbR n f) h8)) <| .l) λh7=>.a (Ac3 (askL MB) a0 n f hn (j:=λ_=>.und) (Ajb (a:=AbR n f) h7)) <| .l) λh4=>.a (Ac4 (askL MB) a0 n f hn (j:=λ_=>.und) (Ajd (a:=Aim n f) hn h4)) <| .l) λh3=>.c (λg=>.a (r52 (askL MB) a0 n f hn (j:=λ_=>.und) (Ajh hK hn h3 g)) .l) λg=>.a (r52 (askL MB) a0 n f hn (j:=λ_=>.und) (Ajg hK hn h3 g)) .l
  exact ⟨_,cxA Gl VV MB,_,Ux ha,rfl,hx.1,hx.2,DK.of (OS (Acf a0 n f)) (.c (λh1=>.k (eN h1) <| .k (eN h1) <| .k (eN h1) <| .k eF (w (kn1 h1))) λh1=>.k (eN h1) <| .k (eN h1) <| .k (eN h1) <| .c (λh2=>.k (eN h2) (w (kn2 h2))) λh2=>.k (eN h2) .l) (by kernel_rfl),Aw.refl _⟩
 ·cases h
noncomputable def Agj:AK:=(169,Aft)::(170,Uo)::(175,Tt)::(174,Un)::[]
theorem Aal:Ar Tryz.prog Gl Agj:=.cons p86 <| .cons p87 <| .cons p92 <| .cons p91 .nil
def AhU (a:Int) (n:Nat) (f:Nat->E6):Int:=(HI a n f).1
def Ajj (a:Int) (n:Nat) (f:Nat->E6):Int:=(HI a n f).2
def crI (n:Nat) (l:Nat->Int) (c:Nat->Bool) (q:Int):Int:=(crR n l c q).1
def crB (n:Nat) (l:Nat->Int) (c:Nat->Bool) (q:Int):Bool:=(crR n l c q).2
theorem Ro (p:Nat->Bool) (n:Nat) (hn:n <= 4611686018427387904):okP n (A1 p n)=true:=AG.2 λi hi=>by
 unfold A1;cases decide (i<n) with
 | false=>rfl
 | true =>
  cases decide (Ai p i=Ai p n) with
  | true=>rfl
  | false =>have:=B5 p i;exact Qe (by omega)
def C84 (a0:Int) (n:Nat) (f:Nat->E6):AB:=.br (ilt (ofNat n) 2) (.leaf ((.tup [iV 40,iV 0]),[])) (.br (ilt 16 (ofNat n)) (.leaf ((.tup [iV 40,iV 0]),[])) (.br (ieq (AhU a0 n f) 0) (.br (ilt (HJ n f) 2) (.leaf ((.tup [iV 42,iV 0]),[])) (.br (ilt (IU n f) 2) (.leaf ((.tup [iV 43,iV 0]),[])) (.br (crB n (A1 (λk=>A4 (f k)) n) (λi=>isW (f i)) 2) (.leaf ((.tup [iV 44,iV (crI n (A1 (λk=>A4 (f k)) n) (λi=>isW (f i)) 2)]),[])) (.br (crB n (A1 (λk=>Ay (f k)) n) (λ_=>true) 12) (.leaf ((.tup [iV 45,iV (crI n (A1 (λk=>Ay (f k)) n) (λ_=>true) 12)]),[])) (.leaf ((.tup [iV 0,iV 0]),[])))))) (.leaf ((.tup [iV (AhU a0 n f),iV (Ajj a0 n f)]),[]))))
theorem Acb (a0:Int) (n:Nat) (f:Nat->E6):(C84 a0 n f).sem=some (.tup [iV (L9 a0 n f).1,iV (L9 a0 n f).2],[]):=by
 unfold C84 L9 Sm Up;cases ilt (ofNat n) 2 with
 | true=>rfl
 | false =>
  cases ilt 16 (ofNat n) with
  | true=>rfl
  | false =>
   show sel (ieq (HI a0 n f).1 0) _ _=_;cases e:ieq (HI a0 n f).1 0 with
   | false=>rfl
   | true =>
    show sel (ilt (HJ n f) 2) _ _=some (V.tup [iV (match ilt (HJ n f) 2,ilt (IU n f) 2 with
     | true,_=>((42:Int),(0:Int))
     | false,true=>(43,0)
     | false,false=>_).1,iV (match ilt (HJ n f) 2,ilt (IU n f) 2 with
     | true,_=>((42:Int),(0:Int))
     | false,true=>(43,0)
     | false,false=>_).2],[])
    cases ilt (HJ n f) 2 with
    | true=>rfl
    | false =>
     cases ilt (IU n f) 2 with
     | true=>rfl
     | false =>
      show sel (crR n (A1 (λk=>A4 (f k)) n) (λi=>isW (f i)) 2).2 (some (V.tup [iV 44,iV (crR n (A1 (λk=>A4 (f k)) n) (λi=>isW (f i)) 2).1],[])) (sel (crR n (A1 (λk=>Ay (f k)) n) (λ_=>true) 12).2 (some (V.tup [iV 45,iV (crR n (A1 (λk=>Ay (f k)) n) (λ_=>true) 12).1],[])) _)=_;cases crR n (A1 (λk=>A4 (f k)) n) (λi=>isW (f i)) 2 with
      | mk x b =>
       cases b with
       | true=>rfl
       | false =>
        cases crR n (A1 (λk=>Ay (f k)) n) (λ_=>true) 12 with
        | mk x b=>cases b <;> rfl
theorem p48:As Tryz.prog Gl 138 WN:=by
 refine Am AA mixed Tryz.func138 (by kernel_rfl) (by kernel_rfl) λvs v h' h=>?_;unfold WN at h;split at h
 ·rename_i a0 u
  obtain ⟨n,f,ha,h1⟩:=Ce h;obtain ⟨hF,hq⟩:=Ab h1;have:=Aa hq;simp only [Prod.mk.injEq] at this;obtain ⟨rfl,rfl⟩:=this;have hn:n <= 4611686018427387904:=DG (Gk hF);have hk:Eu 8 (ofNat n) (ofNat n)=true:=AiT hF;have hx:=Bh Aal [] (G:=Gl);have w:DK (λa=>a) (C84 a0 n f) _:=.c (λh1=>.r 4 h1 <| .k eT <| .l) λh1=>.r 4 h1 <| .c (λh2=>.k h2 <| .l) λh2=>.k h2 <| .k (eL n) <| .k hF <| .c (λh3=>.k (eN h3) <| .k (eL n) <| .k (decide_eq_true hn) <| .c (λh4=>.k h4 <| .l) λh4=>.k h4 <| .k (eL n) <| .k (decide_eq_true hn) <| .c (λh5=>.k h5 <| .l) λh5=>.k h5 <| .k (eL n) <| .k hk <| .r 2 (eL n) <| .k (eJ n) <| .k (decide_eq_true hn) <| .k (Ro (λk=>A4 (f k)) n hn) <| .c (λh6=>.k h6 <| .l) λh6=>.k h6 <| .k (eL n) <| .k hk <| .k (eL n) <| .k (decide_eq_true hn) <| .k (Ro (λk=>Ay (f k)) n hn) <| .c (λh7=>.k h7 <| .l) λh7=>.k h7 <| .l) λh3=>.k (eN h3) <| .l
  exact ⟨_,Br Gl Agj [],_,Ux ha,rfl,hx.1,hx.2,DK.of (OS (Acb a0 n f)) (.c (λh1=>.k (eN h1) <| .k (eN h1) <| .k (eN h1) <| .k eF w) λh1=>.k (eN h1) <| .k (eN h1) <| .k (eN h1) <| .c (λh2=>.k (eN h2) w) λh2=>.k (eN h2) .l) (by kernel_rfl),Aw.refl _⟩
 ·cases h
end Go.Proofs.YtkbafjceglhjhaaGreatDoor.Ed
namespace Go.Proofs.YtkbafjceglhjhaaGreatDoor.Ed
open Go.Sy
def Gn (a:Int) (n:Nat) (f:Nat->E6):Int:=(Ny a n f).1
def Afz (a:Int) (n:Nat) (f:Nat->E6):Int:=(Ny a n f).2
end Go.Proofs.YtkbafjceglhjhaaGreatDoor.Ed
namespace Go.Proofs.YtkbafjceglhjhaaGreatDoor.Ed
open Go.Sy
open Int (ofNat)
theorem AaX {K a b:Nat} (c:Nat) (h:a % K=b % K):(a+c) % K=(b+c) % K:=by rw [Nat.add_mod,h,<- Nat.add_mod]
theorem Lj {K a b c:Nat} (hab:a <= b) (h:(a+c) % K=(b+c) % K):a % K=b % K:=by
 have h1:=Nat.sub_mod_eq_zero_of_mod_eq h.symm;rw [show b+c-(a+c)=b-a by omega] at h1;have h2:(a+(b-a)) % K=a % K:=by rw [Nat.add_mod,h1,Nat.add_zero,Nat.mod_mod]
 rw [show a+(b-a)=b by omega] at h2;exact h2.symm
theorem TB {K a b c:Nat} (h:(a+c) % K=(b+c) % K):a % K=b % K:=by
 rcases Nat.le_total a b with h1 | h1
 ·exact Lj h1 h
 ·exact (Lj h1 h.symm).symm
theorem JV (p:Nat->Bool) (a:Nat):∀ b,Ai p (a+b)=Ai p a+Ai (λi=>p (a+i)) b
 | 0=>rfl
 | b+1=>by
  rw [show a+(b+1)=a+b+1 by omega,Ai,Ai,JV p a b];cases p (a+b) <;> rfl
theorem OM (p:Nat->Bool) {n k j:Nat} (hk:k<n) (hj:j <= n):Ai p k+Ai (λi=>p ((k+i) % n)) j=if k+j<n then Ai p (k+j) else Ai p n+Ai p (k+j-n):=by
 split
 ·rename_i h
  rw [JV p k j,Cd (q:=λi=>p ((k+i) % n)) (p:=λi=>p (k+i)) j λi hi=>by rw [Nat.mod_eq_of_lt (by omega)]]
 ·rename_i h
  have e:j=(n-k)+(k+j-n):=by omega
  have h1:=JV (λi=>p ((k+i) % n)) (n-k) (k+j-n);rw [<- e] at h1;rw [h1,Cd (q:=λi=>p ((k+i) % n)) (p:=λi=>p (k+i)) (n-k) λi hi=>by rw [Nat.mod_eq_of_lt (by omega)],
   Cd (q:=λi=>p ((k+(n-k+i)) % n)) (p:=p) (k+j-n) λi hi=>by rw [show k+(n-k+i)=i+n by omega,Nat.add_mod_right,Nat.mod_eq_of_lt (by omega)]]
  have h2:=JV p k (n-k);rw [show k+(n-k)=n by omega] at h2;omega
theorem FR (p:Nat->Bool) {n k:Nat} (hk:k<n):Ai (λi=>p ((k+i) % n)) n=Ai p n:=by
 have h:=OM p hk (Nat.le_refl n);rw [if_neg (by omega),show k+n-n=k by omega] at h;omega
theorem Ig (p:Nat->Bool) {n i:Nat} (hi:i<n) (hK:0<Ai p n):A1 p n i=ofNat (Ai p i % Ai p n):=by
 unfold A1;rw [decide_eq_true hi];have:=AT p (show i <= n by omega);by_cases h:Ai p i=Ai p n
 ·rw [decide_eq_true h,h,Nat.mod_self]
  rfl
 ·rw [decide_eq_false h,Nat.mod_eq_of_lt (by omega)]
  rfl
theorem Rl (p:Nat->Bool) {n k i j:Nat} (hk:k<n) (hK:0<Ai p n) (hi:i<n) (hj:j<n) :
  A1 (λi=>p ((k+i) % n)) n i=A1 (λi=>p ((k+i) % n)) n j↔A1 p n ((k+i) % n)=A1 p n ((k+j) % n):=by
 have hn:0<n:=by omega
 have hT:=FR p hk;have key:∀ i,i<n->(Ai p k+Ai (λi=>p ((k+i) % n)) i) % Ai p n=Ai p ((k+i) % n) % Ai p n:=λi hi=>by
  rw [OM p hk (Nat.le_of_lt hi)];split
  ·rename_i h
   rw [Nat.mod_eq_of_lt h]
  ·rename_i h
   rw [Nat.add_mod_left,show (k+i) % n=k+i-n by rw [show k+i=k+i-n+n by omega,Nat.add_mod_right,Nat.mod_eq_of_lt (by omega)]; omega]
 rw [Ig _ hi (by rw [hT]; exact hK),Ig _ hj (by rw [hT]; exact hK),Ig p (Nat.mod_lt _ hn) hK,Ig p (Nat.mod_lt _ hn) hK,hT,<- key i hi,<- key j hj];constructor
 ·intro h
  have h:=Int.ofNat.inj h;have:=AaX (Ai p k) h;rw [Nat.add_comm _ (Ai p k),Nat.add_comm _ (Ai p k)] at this;rw [this]
 ·intro h
  have h:=Int.ofNat.inj h;rw [Nat.add_comm (Ai p k),Nat.add_comm (Ai p k)] at h;rw [TB h]
theorem Di {q:Nat->Bool}:∀ {d i:Nat},AU q d i=none↔∀ k,i <= k->k<i+d->q k=false
 | 0,i=>⟨λ_ k h1 h2=>by omega,λ_=>rfl⟩
 | d+1,i=>by
  cases hq:q i with
  | true =>rw [Fz hq];refine ⟨λh=>(by cases h),λh=>?_⟩;have:=h i (Nat.le_refl i) (by omega);rw [hq] at this;cases this
  | false =>
   rw [F2 hq,Di];refine ⟨λh k h1 h2=>?_,λh k h1 h2=>h k (by omega) (by omega)⟩;by_cases e:k=i
   ·rw [e]; exact hq
   ·exact h k (by omega) (by omega)
structure IsCycle (a:Int) (n:Nat) (f:Nat->E6):Prop where
 arch:ieq a 1=true ∨ ieq a 2=true
 lo:2 <= n
 hi:n <= 16
 legal:∀ i,i<n->Ds a f i=false
 meets:∀ i,i<n->FA n f i=false
 outer:2 <= Ai (λk=>Ay (f k)) n
 moves:2 <= Ai (λk=>A4 (f k)) n
 writes:∀ i,i<n->AP n (A1 (λk=>A4 (f k)) n) (λi=>isW (f i)) 2 i=false
 crowd:∀ i,i<n->AP n (A1 (λk=>Ay (f k)) n) (λ_=>true) 12 i=false
theorem Si {n:Nat} {l:Nat->Int} {c:Nat->Bool} {q:Int} (h:∀ i,i<n->AP n l c q i=false):crR n l c q=(0,false):=by
 unfold crR;rw [Di.2 λk _ h2=>h k (by omega)]
theorem OH {n:Nat} {l:Nat->Int} {c:Nat->Bool} {q:Int} (h:(crR n l c q).2=false):∀ i,i<n->AP n l c q i=false:=by
 unfold crR at h;cases hc:AU (AP n l c q) n 0 with
 | some t=>rw [hc] at h; cases h
 | none=>exact λi hi=>Di.1 hc i (Nat.zero_le i) (by omega)
theorem IsCycle.ok {a:Int} {n:Nat} {f:Nat->E6} (h:IsCycle a n f):Ny a n f=(0,0):=by
 have e1:HI a n f=(0,0):=by
  unfold HI;rw [Di.2 λk _ h2=>h.legal k (by omega)];show (match AU (FA n f) n 0 with | some t=>((41:Int),ofNat t) | none=>(0,0))=(0,0)
  rw [Di.2 λk _ h2=>h.meets k (by omega)]
 have c1:ilt (ofNat n) 2=false:=by rw [show (2:Int)=ofNat 2 from rfl,Dp,decide_eq_false (by have:=h.lo; omega)]
 have c2:ilt 16 (ofNat n)=false:=by rw [show (16:Int)=ofNat 16 from rfl,Dp,decide_eq_false (by have:=h.hi; omega)]
 have c3:ilt (HJ n f) 2=false:=by unfold HJ; rw [show (2:Int)=ofNat 2 from rfl,Dp,decide_eq_false (by have:=h.outer; omega)]
 have c4:ilt (IU n f) 2=false:=by unfold IU; rw [show (2:Int)=ofNat 2 from rfl,Dp,decide_eq_false (by have:=h.moves; omega)]
 rw [V9 h.arch];unfold L9;rw [c1,c2,e1];show Sm n f=(0,0);unfold Sm;rw [c3,c4];show Up n f=(0,0);unfold Up;rw [Si h.writes,Si h.crowd]
theorem Bj {a:Int} {n:Nat} {f:Nat->E6} (h:ieq (Gn a n f) 0=true):IsCycle a n f:=by
 have h:=Ck h;unfold Gn at h;have ha:ieq a 1=true ∨ ieq a 2=true:=by
  cases ca:ieq a 1 with
  | true=>exact .inl rfl
  | false =>
   cases cb:ieq a 2 with
   | true=>exact .inr rfl
   | false =>unfold Ny at h;rw [ca,cb] at h;cases h
 rw [V9 ha] at h;unfold L9 at h;cases c1:ilt (ofNat n) 2 with
 | true=>rw [c1] at h; cases h
 | false =>
  cases c2:ilt 16 (ofNat n) with
  | true=>rw [c1,c2] at h; cases h
  | false =>
   rw [c1,c2] at h;have h:(match HI a n f,ieq (HI a n f).1 0 with | r,false=>r | _,true=>Sm n f).1=0:=h
   cases c3:ieq (HI a n f).1 0 with
   | false =>rw [c3] at h;have h:(HI a n f).1=0:=h;rw [h] at c3;cases c3
   | true =>
    rw [c3] at h;have h:(Sm n f).1=0:=h;have c3:=Ck c3;unfold Sm at h;cases c4:ilt (HJ n f) 2 with
    | true=>rw [c4] at h; cases h
    | false =>
     cases c5:ilt (IU n f) 2 with
     | true=>rw [c4,c5] at h; cases h
     | false =>
      rw [c4,c5] at h;have h:(Up n f).1=0:=h;unfold Up at h;cases c6:(crR n (A1 (λk=>A4 (f k)) n) (λi=>isW (f i)) 2).2 with
      | true =>rw [show crR n (A1 (λk=>A4 (f k)) n) (λi=>isW (f i)) 2=((crR n (A1 (λk=>A4 (f k)) n) (λi=>isW (f i)) 2).1,true) from Prod.ext rfl c6] at h;cases h
      | false =>
       rw [show crR n (A1 (λk=>A4 (f k)) n) (λi=>isW (f i)) 2=((crR n (A1 (λk=>A4 (f k)) n) (λi=>isW (f i)) 2).1,false) from Prod.ext rfl c6] at h;cases c7:(crR n (A1 (λk=>Ay (f k)) n) (λ_=>true) 12).2 with
       | true =>rw [show crR n (A1 (λk=>Ay (f k)) n) (λ_=>true) 12=((crR n (A1 (λk=>Ay (f k)) n) (λ_=>true) 12).1,true) from Prod.ext rfl c7] at h;cases h
       | false =>
        have e1:AU (Ds a f) n 0=none∧AU (FA n f) n 0=none:=by
         unfold HI at c3;cases d1:AU (Ds a f) n 0 with
         | some t =>
          rw [d1] at c3;cases d2:ieq (Gg a (f t)) 0 with
          | true=>simp only [d2] at c3; cases c3
          | false=>simp only [d2] at c3; cases c3
         | none =>
          rw [d1] at c3;cases d2:AU (FA n f) n 0 with
          | some t=>rw [d2] at c3; cases c3
          | none=>exact ⟨rfl,rfl⟩
        rw [show (2:Int)=ofNat 2 from rfl,Dp] at c1;rw [show (16:Int)=ofNat 16 from rfl,Dp] at c2;unfold HJ at c4;rw [show (2:Int)=ofNat 2 from rfl,Dp] at c4;unfold IU at c5;rw [show (2:Int)=ofNat 2 from rfl,Dp] at c5;have c1:=of_decide_eq_false c1;have c2:=of_decide_eq_false c2;have c4:=of_decide_eq_false c4;have c5:=of_decide_eq_false c5;exact ⟨ha,by omega,by omega,λi hi=>Di.1 e1.1 i (Nat.zero_le i) (by omega),λi hi=>Di.1 e1.2 i (Nat.zero_le i) (by omega),by omega,by omega,OH c6,OH c7⟩
theorem Hx (p c:Nat->Bool) {n k:Nat} (hk:k<n) (hK:0<Ai p n) (q:Int) {i:Nat} (hi:i<n) :
  AP n (A1 (λi=>p ((k+i) % n)) n) (λi=>c ((k+i) % n)) q i=AP n (A1 p n) c q ((k+i) % n):=by
 unfold AP Nx;rw [Cd (q:=Ct (A1 (λi=>p ((k+i) % n)) n) (λi=>c ((k+i) % n)) (A1 (λi=>p ((k+i) % n)) n i)) (p:=λj=>Ct (A1 p n) c (A1 p n ((k+i) % n)) ((k+j) % n)) n λj hj=>by
  unfold Ct;have h1:=Rl p hk hK hj hi;by_cases e:A1 (λi=>p ((k+i) % n)) n j=A1 (λi=>p ((k+i) % n)) n i
  ·rw [e,h1.1 e,PQ,PQ]
  ·rw [show ieq (A1 (λi=>p ((k+i) % n)) n j) (A1 (λi=>p ((k+i) % n)) n i)=false by simp [ieq,e],show ieq (A1 p n ((k+j) % n)) (A1 p n ((k+i) % n))=false by
    have:¬ A1 p n ((k+j) % n)=A1 p n ((k+i) % n):=λh=>e (h1.2 h);simp [ieq,this]]]
 rw [FR (Ct (A1 p n) c (A1 p n ((k+i) % n))) hk]
theorem IsCycle.turned {a:Int} {n:Nat} {f:Nat->E6} (h:IsCycle a n f) {k:Nat} (hk:k<n):IsCycle a n λi=>f ((k+i) % n):=by
 have hn:0<n:=by omega
 have ho:=h.outer;have hm:=h.moves;refine ⟨h.arch,h.lo,h.hi,λi hi=>h.legal _ (Nat.mod_lt _ hn),λi hi=>?_,?_,?_,λi hi=>?_,λi hi=>?_⟩
 ·have:=h.meets ((k+i) % n) (Nat.mod_lt _ hn)
  unfold FA at this ⊢;rw [Nat.mod_add_mod] at this;show AL (ieq (f ((k+i) % n)).dst (f ((k+(i+1) % n) % n)).src)=false;rw [Nat.add_mod_mod,<- Nat.add_assoc];exact this
 ·show 2 <= Ai (λi=>(λk=>Ay (f k)) ((k+i) % n)) n
  rw [FR (λk=>Ay (f k)) hk];exact ho
 ·show 2 <= Ai (λi=>(λk=>A4 (f k)) ((k+i) % n)) n
  rw [FR (λk=>A4 (f k)) hk];exact hm
 ·show AP n (A1 (λi=>(λk=>A4 (f k)) ((k+i) % n)) n) (λi=>(λk=>isW (f k)) ((k+i) % n)) 2 i=false
  rw [Hx (λk=>A4 (f k)) (λk=>isW (f k)) hk (by omega) 2 hi];exact h.writes _ (Nat.mod_lt _ hn)
 ·show AP n (A1 (λi=>(λk=>Ay (f k)) ((k+i) % n)) n) (λi=>(λ_=>true) ((k+i) % n)) 12 i=false
  rw [Hx (λk=>Ay (f k)) (λ_=>true) hk (by omega) 12 hi];exact h.crowd _ (Nat.mod_lt _ hn)
theorem IsCycle.may {a:Int} {n:Nat} {f:Nat->E6} (h:IsCycle a n f):DX n f=true:=Fx.2 λi hi=>by
 have h1:=h.legal i hi;unfold Ds at h1;cases c:ieq (Gg a (f i)) 0 with
 | false=>rw [c] at h1; cases h1
 | true =>
  have c:=Ck c;rcases h.arch with ha | ha
  ·rw [Ck ha] at c; exact c
  ·rw [Ck ha] at c; exact c
end Go.Proofs.YtkbafjceglhjhaaGreatDoor.Ed
