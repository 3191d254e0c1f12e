/-
  Layer 6: the law of Cycles. No conditions.
-/
import Derived.Test.YtkbgidbledjejaaGreatCyYp
import Derived.Test.YtkbgidbledjejaaGreatEnT
import Derived.Test.YtkbgidbledjejaaGreatEnE
import Derived.Test.YtkbgidbledjejaaGreatEnTd
import Derived.Test.YtkbgidbledjejaaGreatChecked
import Derived.ProofKit
import Derived.OpenShut
import Derived.Deep.DeepHandedRow
namespace Go.Proofs.YtkbgidbledjejaaGreat.En
open Go.Sy Go Go.Proofs.YtkbgidbledjejaaGreat.Ed
open Int (ofNat)
set_option maxRecDepth 100000
def jg3 (N:Nat) (l:Nat->Nat) (M:Nat->Nat->E6):Blk:=.jag ⟨22,1,N,λ_=>.und,0,46,6,λ_=>true,l,λi j=>eV (M i j),none⟩
def hp3 (k:Nat) (w:Nat->E6) (N N2 N3:Nat) (l l2 l3:Nat->Nat) (M x2 x3:Nat->Nat->E6):List Blk:=[.row 46 6 (Bv k 40) (λi=>eV (AD k w i)),jg3 N l M,jg3 N2 l2 x2,jg3 N3 l3 x3]
def mkM (M:Nat->Nat->E6):Nat->Nat->Nat->E6
 | 0=>M
 | c+1=>λi j=>bif Es i c then BP (wr .i64 (Ai 500 (ofNat c))) else mkM M c i j
theorem Adk (M:Nat->Nat->E6):∀ c i j,i<c->mkM M c i j=BP (wr .i64 (Ai 500 (ofNat i)))
 | c+1,i,j,h=>by
  show (bif Es i c then _ else mkM M c i j)=_;cases hq:Es i c with
  | true=>cases Nat.eq_of_beq_eq_true hq; rfl
  | false=>exact Adk M c i j (by
    rcases Nat.lt_or_ge i c with h2 | h2
    ·exact h2
    ·obtain rfl:i=c:=by omega
     rw [eJ] at hq; cases hq)
theorem Akt (M:Nat->Nat->E6) (b:Nat):(λi j=>Dj (λi j=>eV (mkM M b i j)) b (λ_=>eV (BP (wr .i64 (Ai 500 (ofNat b))))) i j)=λi j=>eV (mkM M (b+1) i j):=by
 funext i j;show Pg (Es i b) _ _=eV (bif Es i b then _ else mkM M b i j);cases Es i b <;> rfl
theorem eRE (n:Nat) (l:Nat->Nat) (x:Nat->Nat->E6):BM [jg3 n l x]=true:=by
 simp only [jg3,BM,Bool.and_true,List.all_eq_true,Bool.and_eq_true];exact λ_ _=>⟨rfl,λ_ _=>rfl⟩
theorem eLL (n:Nat) (l:Nat->Nat):Dl n (λi=>Dl (l i) λ_=>true)=true:=AS.2 λi _=>eL (l i)
def ApF (k:Nat) (w:Nat->E6) (N N2 N3:Nat) (l l2 l3:Nat->Nat) (M:Nat->Nat->V) (x2 x3:Nat->Nat->E6):List Blk:=[.row 46 6 (Bv k 40) (λi=>eV (AD k w i)),.jag ⟨22,1,N,λ_=>.und,0,46,6,λ_=>true,l,M,none⟩,jg3 N2 l2 x2,jg3 N3 l3 x3]
noncomputable def tb3:AG:=(8,Ail)::(9,Uv)::(10,Uv)::(11,Ahd)::(12,Ad9)::(13,AdF)::(17,AeP)::(18,awT)::[]
noncomputable def mt3:List (Nat×(List V->List Blk->A3)):=(14,YV 46 6 Ado)::(15,SB 46 6 SC)::(16,SB 46 6 SC)::[]
def Aig:Lp:=⟨bmK 158 0 [0,1,2,3,8,9,10,12,14,18],4,bmK 158 0 [0,1,2,3,8,9,10,12,14],4,4611686018427387905⟩
def Ali (A n q:Int) (k:Nat) (w:Nat->E6) (N N2 N3:Nat) (l l2 l3:Nat->Nat) (M x2 x3:Nat->Nat->E6) (c:Nat):St:=⟨jsV 158 0 Ac [(0,iV A),(1,.sl 6 k (λi=>eV (w i))),(2,iV n),(3,iV q),(8,bV false),(9,.rct 0 k),(10,.jref 1),(12,.jref 2),(14,.jref 3),(18,nV c)],hp3 k w N N2 N3 l l2 l3 (mkM M c) x2 x3⟩
def ApV (A n q:Int) (k:Nat) (w:Nat->E6) (N N2 N3:Nat) (l l2 l3:Nat->Nat) (M x2 x3:Nat->Nat->E6):Ex×St:=(.ex 0,⟨jsV 158 0 Ac [(0,iV A),(1,.sl 6 k (λi=>eV (w i))),(2,iV n),(3,iV q),(8,bV false),(9,.rct 0 k),(10,.jref 1),(12,.jref 2),(14,.jref 3)],hp3 k w N N2 N3 l l2 l3 (mkM M N) x2 x3⟩)
def Aif:Lp:=⟨bmK 158 0 [0,1,2,3,8,9,10,12,14,19],4,bmK 158 0 [0,1,2,3,8,9,10,12,14],4,4611686018427387905⟩
def Aos (A n q:Int) (k:Nat) (w:Nat->E6) (N N2 N3:Nat) (l l2 l3:Nat->Nat) (M x2 x3:Nat->Nat->E6) (c:Nat):St:=⟨jsV 158 0 Ac [(0,iV A),(1,.sl 6 k (λi=>eV (w i))),(2,iV n),(3,iV q),(8,bV false),(9,.rct 0 k),(10,.jref 1),(12,.jref 2),(14,.jref 3),(19,nV c)],hp3 k w N N2 N3 l l2 l3 M x2 x3⟩
def ApU (A n q:Int) (k:Nat) (w:Nat->E6) (N N2 N3:Nat) (l l2 l3:Nat->Nat) (M x2 x3:Nat->Nat->E6):Ex×St:=(.ex 2,⟨jsV 158 0 Ac [(0,iV A),(1,.sl 6 k (λi=>eV (w i))),(2,iV n),(3,iV q),(8,bV false),(9,.rct 0 k),(10,.jref 1),(12,.jref 2),(14,.jref 3)],hp3 k w N N2 N3 l l2 l3 M x2 x3⟩)
def Aie:Lp:=⟨bmK 158 0 [0,1,2,3,8,9,10,12,14,20],4,bmK 158 0 [0,1,2,3,8,9,10,12,14],4,4611686018427387905⟩
def Aor (A n q:Int) (k:Nat) (w:Nat->E6) (N N2 N3:Nat) (l l2 l3:Nat->Nat) (M x2 x3:Nat->Nat->E6) (c:Nat):St:=⟨jsV 158 0 Ac [(0,iV A),(1,.sl 6 k (λi=>eV (w i))),(2,iV n),(3,iV q),(8,bV false),(9,.rct 0 k),(10,.jref 1),(12,.jref 2),(14,.jref 3),(20,nV c)],hp3 k w N N2 N3 l l2 l3 M x2 x3⟩
def ApT (A n q:Int) (k:Nat) (w:Nat->E6) (N N2 N3:Nat) (l l2 l3:Nat->Nat) (M x2 x3:Nat->Nat->E6):Ex×St:=(.ex 4,⟨jsV 158 0 Ac [(0,iV A),(1,.sl 6 k (λi=>eV (w i))),(2,iV n),(3,iV q),(8,bV false),(9,.rct 0 k),(10,.jref 1),(12,.jref 2),(14,.jref 3)],hp3 k w N N2 N3 l l2 l3 M x2 x3⟩)
def Aid:Lp:=⟨bmK 158 0 [0,1,2,3,8,9,10,12,14,21],4,bmK 158 0 [0,1,2,3,8,9,10,12,14],4,4611686018427387905⟩
def Aoq (A n q:Int) (k:Nat) (w:Nat->E6) (N N2 N3:Nat) (l l2 l3:Nat->Nat) (M x2 x3:Nat->Nat->E6) (c:Nat):St:=⟨jsV 158 0 Ac [(0,iV A),(1,.sl 6 k (λi=>eV (w i))),(2,iV n),(3,iV q),(8,bV false),(9,.rct 0 k),(10,.jref 1),(12,.jref 2),(14,.jref 3),(21,nV c)],hp3 k w N N2 N3 l l2 l3 M x2 x3⟩
def ApS (A n q:Int) (k:Nat) (w:Nat->E6) (N N2 N3:Nat) (l l2 l3:Nat->Nat) (M x2 x3:Nat->Nat->E6):Ex×St:=(.ex 6,⟨jsV 158 0 Ac [(0,iV A),(1,.sl 6 k (λi=>eV (w i))),(2,iV n),(3,iV q),(8,bV false),(9,.rct 0 k),(10,.jref 1),(12,.jref 2),(14,.jref 3)],hp3 k w N N2 N3 l l2 l3 M x2 x3⟩)
theorem Ag6 (A n q:Int) (k:Nat) (w:Nat->E6) (N N2 N3:Nat) (l l2 l3:Nat->Nat) (M x2 x3:Nat->Nat->E6) {b:Nat} (hw:wr .i64 (Ai (ofNat b) 1)=ofNat (b+1)):(⟨jsV 158 0 Ac [(0,iV A),(1,.sl 6 k (λi=>eV (w i))),(2,iV n),(3,iV q),(8,bV false),(9,.rct 0 k),(10,.jref 1),(12,.jref 2),(14,.jref 3),(18,iV (wr .i64 (Ai (ofNat b) 1)))],ApF k w N N2 N3 l l2 l3 (λi j=>Dj (λi j=>eV (mkM M b i j)) b (λ_=>eV (BP (wr .i64 (Ai 500 (ofNat b))))) i j) x2 x3⟩:St)=Ali A n q k w N N2 N3 l l2 l3 M x2 x3 (b+1):=by
 rw [hw,Akt]; rfl
noncomputable def Aqj (L:LT):St->T (Ex×St):=λst=>A6 tab ⟨QU mt3 tb3,L,Gl⟩ (Aw Tryz.f3 0) 0 st
noncomputable def Aqi (L:LT):St->T (Ex×St):=λst=>A6 tab ⟨QU mt3 tb3,L,Gl⟩ (Aw Tryz.f3 2) 2 st
noncomputable def Aqh (L:LT):St->T (Ex×St):=λst=>A6 tab ⟨QU mt3 tb3,L,Gl⟩ (Aw Tryz.f3 4) 4 st
noncomputable def Aqg (L:LT):St->T (Ex×St):=λst=>A6 tab ⟨QU mt3 tb3,L,Gl⟩ (Aw Tryz.f3 6) 6 st
theorem AoX (L:LT) (A n q:Int) (k:Nat) (w:Nat->E6) (N N2 N3:Nat) (l l2 l3:Nat->Nat) (M x2 x3:Nat->Nat->E6) (hN:N <= 4611686018427387904) (hs:∀ i,i<N->BX (l i)=true):(Ax (Aqj L) Aig 4611686018427387905 (Ali A n q k w N N2 N3 l l2 l3 M x2 x3 0)).sem=some (ApV A n q k w N N2 N3 l l2 l3 M x2 x3) :=
 Cf (m:=N) (S:=Ali A n q k w N N2 N3 l l2 l3 M x2 x3) (by intro h; cases h) (λb hb=>by
  have hw:=Cs (i:=b) (by omega);exact DW.rd (.k (ofNat_lt hb) <| .k (Af hb) <| .k (decide_eq_true hb) <| .r 2 eT <| .k (hs b hb) <| .k (eL (l b)) <| .e (congrArg (Prod.mk Ex.nm) (Ag6 A n q k w N N2 N3 l l2 l3 M x2 x3 hw))) (by kernel_rfl)) (DW.rd (.k (A1 (Nat.le_refl N)) <| .l) (by kernel_rfl)) (by omega)
theorem AoW (L:LT) (A n q:Int) (k:Nat) (w:Nat->E6) (N N2 N3:Nat) (l l2 l3:Nat->Nat) (M x2 x3:Nat->Nat->E6) (hN:N <= 4611686018427387904) (ha:∀ i,i<N->Ck (l i) 60 40=true):(Ax (Aqi L) Aif 4611686018427387905 (Aos A n q k w N N2 N3 l l2 l3 M x2 x3 0)).sem=some (ApU A n q k w N N2 N3 l l2 l3 M x2 x3) :=
 Cf (m:=N) (S:=Aos A n q k w N N2 N3 l l2 l3 M x2 x3) (by intro h; cases h) (λb hb=>by
  have hw:=Cs (i:=b) (by omega);exact DW.rd (.k (ofNat_lt hb) <| .k (Af hb) <| .k (decide_eq_true hb) <| .r 2 eT <| .k (ha b hb) <| .e (congrArg (Prod.mk Ex.nm) (congrArg (λz=>(⟨jsV 158 0 Ac [(0,iV A),(1,.sl 6 k (λi=>eV (w i))),(2,iV n),(3,iV q),(8,bV false),(9,.rct 0 k),(10,.jref 1),(12,.jref 2),(14,.jref 3),(19,iV z)],hp3 k w N N2 N3 l l2 l3 M x2 x3⟩:St)) hw))) (by kernel_rfl)) (DW.rd (.k (A1 (Nat.le_refl N)) <| .l) (by kernel_rfl)) (by omega)
theorem AoV (L:LT) (A n q:Int) (k:Nat) (w:Nat->E6) (N N2 N3:Nat) (l l2 l3:Nat->Nat) (M x2 x3:Nat->Nat->E6) (hN:N <= 4611686018427387904) (ha:∀ i,i<N->Ck (l i) 60 40=true):(Ax (Aqh L) Aie 4611686018427387905 (Aor A n q k w N N2 N3 l l2 l3 M x2 x3 0)).sem=some (ApT A n q k w N N2 N3 l l2 l3 M x2 x3) :=
 Cf (m:=N) (S:=Aor A n q k w N N2 N3 l l2 l3 M x2 x3) (by intro h; cases h) (λb hb=>by
  have hw:=Cs (i:=b) (by omega);exact DW.rd (.k (ofNat_lt hb) <| .k (Af hb) <| .k (decide_eq_true hb) <| .r 2 eT <| .k (ha b hb) <| .e (congrArg (Prod.mk Ex.nm) (congrArg (λz=>(⟨jsV 158 0 Ac [(0,iV A),(1,.sl 6 k (λi=>eV (w i))),(2,iV n),(3,iV q),(8,bV false),(9,.rct 0 k),(10,.jref 1),(12,.jref 2),(14,.jref 3),(20,iV z)],hp3 k w N N2 N3 l l2 l3 M x2 x3⟩:St)) hw))) (by kernel_rfl)) (DW.rd (.k (A1 (Nat.le_refl N)) <| .l) (by kernel_rfl)) (by omega)
theorem AoU (L:LT) (A n q:Int) (k:Nat) (w:Nat->E6) (N N2 N3:Nat) (l l2 l3:Nat->Nat) (M x2 x3:Nat->Nat->E6) (hN:N <= 4611686018427387904) (hs:∀ i,i<N->BX (l i)=true) (hm:∀ i,i<N->Dl (l i) (λj=>eqE (M i j) (BP (wr .i64 (Ai 500 (ofNat i)))))=true):(Ax (Aqg L) Aid 4611686018427387905 (Aoq A n q k w N N2 N3 l l2 l3 M x2 x3 0)).sem=some (ApS A n q k w N N2 N3 l l2 l3 M x2 x3) :=
 Cf (m:=N) (S:=Aoq A n q k w N N2 N3 l l2 l3 M x2 x3) (by intro h; cases h) (λb hb=>by
  have hw:=Cs (i:=b) (by omega);exact DW.rd (.k (ofNat_lt hb) <| .k (Af hb) <| .k (decide_eq_true hb) <| .k eT <| .k (eG [N,N2,N3]) <| .k (eL (l b)) <| .k (hs b hb) <| .k (hm b hb) <| .k (eN eT) <| .e (congrArg (Prod.mk Ex.nm) (congrArg (λz=>(⟨jsV 158 0 Ac [(0,iV A),(1,.sl 6 k (λi=>eV (w i))),(2,iV n),(3,iV q),(8,bV false),(9,.rct 0 k),(10,.jref 1),(12,.jref 2),(14,.jref 3),(21,iV z)],hp3 k w N N2 N3 l l2 l3 M x2 x3⟩:St)) hw))) (by kernel_rfl)) (DW.rd (.k (A1 (Nat.le_refl N)) <| .l) (by kernel_rfl)) (by omega)
def ls3:List (Nat×Lp×List (Nat×(Nat->V))):=[(0,Aig,[]),(2,Aif,[]),(4,Aie,[]),(6,Aid,[])]
theorem AbL {m:Nat} {fits opn:List Nat->Bool}:∀ k r d,d ∈ Gh m fits opn k r->d.length <= r.length+k
 | 0,r,d,h=>by cases List.mem_singleton.1 h; omega
 | k+1,r,d,h=>by
  rcases List.mem_cons.1 h with h | h
  ·subst h; omega
  ·cases hq:(fits r && opn r) with
   | false=>rw [hq] at h; cases h
   | true =>rw [hq] at h;obtain ⟨e,_,h⟩:=List.mem_flatMap.1 h;have:=AbL k (e::r) d h;rw [List.length_cons] at this;omega
theorem Ww {A:Int} {k:Nat} {w:Nat->E6} {n q:Int} (h:ieq (Ew A k w n q) 0=true):ieq (E3 A k w n) 0=true∧(HH A k w n).length <= 65536:=by
 unfold Ew at h;cases h1:ieq (E3 A k w n) 0 with
 | false=>rw [h1] at h; rw [show sel false _ (E3 A k w n)=E3 A k w n from rfl] at h; rw [h1] at h; cases h
 | true =>
  rw [h1] at h;cases h2:ilt q 0 with
  | true=>rw [h2] at h; cases h
  | false =>
   cases h3:ilt 65536 q with
   | true=>rw [h2,h3] at h; cases h
   | false =>
    cases h4:HS k w n with
    | true=>rw [h2,h3,h4] at h; cases h
    | false =>
     cases h5:ilt q (ofNat (HH A k w n).length) with
     | true=>rw [h2,h3,h4,h5] at h; cases h
     | false =>have h3':¬ (65536:Int)<q:=of_decide_eq_false h3;have h5':¬ q<((HH A k w n).length:Int):=of_decide_eq_false h5;exact ⟨rfl,by omega⟩
theorem Ahb (A:Int) (k:Nat) (w:Nat->E6) (n q:Int):(CL A k w n q).length <= 65536:=by
 unfold CL;cases h:ieq (Ew A k w n q) 0 with
 | false=>exact Nat.zero_le _
 | true=>show (FY _ _).length <= _; rw [P3]; exact (Ww h).2
theorem Aha (A:Int) (k:Nat) (w:Nat->E6) (n q:Int) (i:Nat):((CL A k w n q).getD i []).length <= 16:=by
 unfold CL;cases h:ieq (Ew A k w n q) 0 with
 | false=>show ((([]:List (List E6))).getD i []).length <= 16; simp
 | true =>
  show ((FY _ _).getD i []).length <= 16;rw [O7,List.length_map,List.length_range,List.getD_eq_getElem?_getD];obtain ⟨g1,g2,g3,g4⟩:=TE (Ww h).1;have g2':¬ n<2:=of_decide_eq_false g2;have g3':¬ 16<n:=of_decide_eq_false g3;cases hd:(HH A k w n)[i]? with
  | none=>simp
  | some d =>
   have hm:=(List.mem_filter.1 (List.mem_of_getElem? hd)).1;obtain ⟨e,_,hv⟩:=List.mem_flatMap.1 hm;have:=AbL _ _ _ hv;have hN:toN n <= 16:=by unfold toN; omega
   show d.length <= 16;simp only [List.length_cons,List.length_nil] at this;omega
noncomputable abbrev cyE (A:Int) (k:Nat) (w:Nat->E6) (n q:Int):Int:=Ew A k w n q
noncomputable abbrev cyN (A:Int) (k:Nat) (w:Nat->E6) (n q:Int):Nat:=(CL A k w n q).length
noncomputable abbrev cyL (A:Int) (k:Nat) (w:Nat->E6) (n q:Int) (i:Nat):Nat:=((CL A k w n q).getD i []).length
noncomputable abbrev cyM (A:Int) (k:Nat) (w:Nat->E6) (n q:Int) (i t:Nat):E6:=((CL A k w n q).getD i []).getD t Ca
theorem AaJ (n:Nat) (l:Nat->Nat) (x:Nat->Nat->E6):V8 n n l l x x=true:=by
 unfold V8;rw [eI];exact AS.2 λi _=>Xk _ _
theorem Apx:As Tryz.prog Gl 10 Uv:=by
 have h:ZC=Uv:=by
  funext vs;unfold ZC;split
  ·rename_i A u n q
   show (apL u λk w=>T.leaf (V.tup [V.jref 0,iV (EY A k w n q)],[XH (Gd A k w n q)]))=apL u λk w=>T.leaf (V.tup [V.jref 0,iV (Ew A k w n q)],[XH (CL A k w n q)]);congr 1;funext k w;rw [(Ae4 _ k w _ _).1,(Ae4 _ k w _ _).2]
  ·rename_i hx
   unfold Uv;split
   ·exact absurd rfl (hx _ _ _ _)
   ·rfl
 exact h ▸ p10
theorem tb3_ok:Al Tryz.prog Gl tb3:=.cons p47 <| .cons p9 <| .cons Apx <| .cons p11 <| .cons p12 <| .cons p50 <| .cons p17 <| .cons p18 .nil
theorem Akr:Lj Tryz.prog Gl mt3:=.cons m43 <| .cons m44 <| .cons m45 .nil
noncomputable abbrev cx3:Cx:=⟨QU mt3 tb3,Cp ls3,Gl⟩
noncomputable def Zf:List V->A3
 | [.val (.int .i64 _),u,.val (.int .i64 _),.val (.int .i64 _)]=>apL u λk _=>.br (Cl (Bv k 60)) (.leaf (bV true,[])) .fail
 | _=>.fail
theorem AlJ (A n q:Int) (k:Nat) (w:Nat->E6) (hk:Cl (Bv k 60)=true):(AL (Ar tab cx3 Tryz.f3 [iV A,Ap k w,iV n,iV q] [])).sem=some (bV true,[]):=by
 have hc:=Abk (w:=w) (w':=λi=>AD k w i) (λi hi=>AdA hi) (A:=A) (n:=n) (q:=q);have hE:ieq (cyE A k (λi=>AD k w i) n q) (cyE A k w n q)=true:=by rw [show cyE A k (λi=>AD k w i) n q=cyE A k w n q from hc.1]; exact eI _
 have hR:CL A k (λi=>AD k w i) n q=CL A k w n q:=hc.2;have hN:ieq (ofNat (cyN A k (λi=>AD k w i) n q)) (ofNat (cyN A k w n q))=true:=by rw [show cyN A k (λi=>AD k w i) n q=cyN A k w n q from congrArg List.length hR]; exact eI _
 have hL:V8 (cyN A k (λi=>AD k w i) n q) (cyN A k w n q) (cyL A k (λi=>AD k w i) n q) (cyL A k w n q) (λi j=>cyM A k (λi=>AD k w i) n q i j) (λi j=>cyM A k w n q i j)=true:=by
  unfold cyN cyL cyM;rw [hR];exact AaJ _ _ _
 have h1:cyN A k (λi=>AD k w i) n q <= 65536:=Ahb A k (λi=>AD k w i) n q;have h2:∀ i,cyL A k (λi=>AD k w i) n q i <= 16:=Aha A k (λi=>AD k w i) n q;have hS:BX (cyN A k (λi=>AD k w i) n q)=true:=decide_eq_true (by omega);have hs:∀ i,i<cyN A k (λi=>AD k w i) n q->BX (cyL A k (λi=>AD k w i) n q i)=true:=λi _=>decide_eq_true (by have:=h2 i; show _ <= (4611686018427387904:Nat); omega);have ha:∀ i,i<cyN A k (λi=>AD k w i) n q->Ck (cyL A k (λi=>AD k w i) n q i) 60 40=true:=λi _=>decide_eq_true (by have:=h2 i; show (_+60) * 40 <= (140737488355328:Nat); omega);have hb:cyN A k (λi=>AD k w i) n q <= 4611686018427387904:=by omega
 exact DW.ok (.k (eL k) <| .k hk <| .k (eL k) <| .k (eRE (cyN A k (λi=>AD k w i) n q) (cyL A k (λi=>AD k w i) n q) (cyM A k (λi=>AD k w i) n q)) <| .k (eG [cyN A k (λi=>AD k w i) n q]) <| .k (eL k) <| .k (eRE (cyN A k (λi=>AD k w i) n q) (cyL A k (λi=>AD k w i) n q) (cyM A k (λi=>AD k w i) n q)) <| .k (eL k) <| .k (eG [cyN A k (λi=>AD k w i) n q,cyN A k (λi=>AD k w i) n q,cyN A k w n q]) <| .k (eL k) <| .r 9 (eN hE) <| .r 3 (eN hN) <| .k (eG [cyN A k (λi=>AD k w i) n q,cyN A k (λi=>AD k w i) n q,cyN A k w n q]) <| .k (eLL (cyN A k (λi=>AD k w i) n q) (cyL A k (λi=>AD k w i) n q)) <| .k (eLL (cyN A k w n q) (cyL A k w n q)) <| .k hS <| .k (AS.2 hs) <| .r 2 (eN hN) <| .r 3 (eN hL) <| .k (eG [cyN A k (λi=>AD k w i) n q,cyN A k (λi=>AD k w i) n q,cyN A k w n q]) <| .k (eLL (cyN A k (λi=>AD k w i) n q) (cyL A k (λi=>AD k w i) n q)) <| .k (eLL (cyN A k w n q) (cyL A k w n q)) <| .k hS <| .k (AS.2 hs) <| .r 5 (eN hL) <| .k (eG [cyN A k (λi=>AD k w i) n q,cyN A k (λi=>AD k w i) n q,cyN A k w n q]) <| .k (eL (Bv k 40)) <| .k (eL k) <| .k hk <| .k (AaP k w) <| .r 2 (eN hL) <| .k (eN eT) <| .a (AoX (Cp ls3) A n q k w (cyN A k (λi=>AD k w i) n q) (cyN A k (λi=>AD k w i) n q) (cyN A k w n q) (cyL A k (λi=>AD k w i) n q) (cyL A k (λi=>AD k w i) n q) (cyL A k w n q) (cyM A k (λi=>AD k w i) n q) (cyM A k (λi=>AD k w i) n q) (cyM A k w n q) hb hs) <| .a (AoW (Cp ls3) A n q k w (cyN A k (λi=>AD k w i) n q) (cyN A k (λi=>AD k w i) n q) (cyN A k w n q) (cyL A k (λi=>AD k w i) n q) (cyL A k (λi=>AD k w i) n q) (cyL A k w n q) (mkM (cyM A k (λi=>AD k w i) n q) (cyN A k (λi=>AD k w i) n q)) (cyM A k (λi=>AD k w i) n q) (cyM A k w n q) hb ha) <| .a (AoV (Cp ls3) A n q k w (cyN A k (λi=>AD k w i) n q) (cyN A k (λi=>AD k w i) n q) (cyN A k w n q) (cyL A k (λi=>AD k w i) n q) (cyL A k (λi=>AD k w i) n q) (cyL A k w n q) (mkM (cyM A k (λi=>AD k w i) n q) (cyN A k (λi=>AD k w i) n q)) (cyM A k (λi=>AD k w i) n q) (cyM A k w n q) hb ha) <| .a (AoU (Cp ls3) A n q k w (cyN A k (λi=>AD k w i) n q) (cyN A k (λi=>AD k w i) n q) (cyN A k w n q) (cyL A k (λi=>AD k w i) n q) (cyL A k (λi=>AD k w i) n q) (cyL A k w n q) (mkM (cyM A k (λi=>AD k w i) n q) (cyN A k (λi=>AD k w i) n q)) (cyM A k (λi=>AD k w i) n q) (cyM A k w n q) hb hs (λi hi=>AS.2 λj _=>(Dw _ _).2 (Adk _ _ i j hi))) <| .k (eG [cyN A k (λi=>AD k w i) n q,cyN A k (λi=>AD k w i) n q,cyN A k w n q]) <| .k (eL k) <| .k (eRE (cyN A k (λi=>AD k w i) n q) (cyL A k (λi=>AD k w i) n q) (cyM A k (λi=>AD k w i) n q)) <| .k (eG [cyN A k (λi=>AD k w i) n q,cyN A k (λi=>AD k w i) n q,cyN A k w n q,cyN A k (λi=>AD k w i) n q]) <| .k (eLL (cyN A k (λi=>AD k w i) n q) (cyL A k (λi=>AD k w i) n q)) <| .k (eLL (cyN A k w n q) (cyL A k w n q)) <| .k hS <| .k (AS.2 hs) <| .r 3 hL <| .k (eG [cyN A k (λi=>AD k w i) n q,cyN A k (λi=>AD k w i) n q,cyN A k w n q,cyN A k (λi=>AD k w i) n q]) <| .k (eLL (cyN A k (λi=>AD k w i) n q) (cyL A k (λi=>AD k w i) n q)) <| .k (eLL (cyN A k w n q) (cyL A k w n q)) <| .k hS <| .k (AS.2 hs) <| .r 3 hL <| .l) (by kernel_rfl)
theorem p3:As Tryz.prog Gl 3 Zf:=by
 refine Ah A2 mixed Tryz.func3 (by kernel_rfl) (by kernel_rfl) λvs r h' h=>?_;unfold Zf at h;split at h
 rotate_left
 ·cases h
 rename_i A u n q;obtain ⟨k,w,hu,h⟩:=Bd h;obtain ⟨hk,h⟩:=Ab h;cases Aa h;refine ⟨[iV A,Ap k w,iV n,iV q],cx3,_,λS W cs hq=>by
  obtain ⟨c,l,rfl,q1,c2,l2,rfl,q2,q3⟩:=hq;exact ⟨c,_,rfl,q1,c2,_,rfl,hu S W c2 q2,q3⟩,rfl,AeI rfl Akr tb3_ok,ME _ _ _,AlJ A n q k w hk,Au.refl _⟩
end Go.Proofs.YtkbgidbledjejaaGreat.En
namespace Go.Proofs.YtkbgidbledjejaaGreat.En
open Go.Sy Go.Proofs.YtkbgidbledjejaaGreat.Ed
set_option maxRecDepth 100000
theorem own:ownKnob Tryz.prog.godebug=none:=by kernel_rfl
theorem OG:laidOutB Tryz.prog=true:=by kernel_rfl
def U6 (e:E6):List Value:=[.int .i64 e.kind,.bool e.ext,.bool e.same,.int .i64 e.src,.int .i64 e.dst,.int .i64 e.fence]
section
variable {H:Type} {enc:TypeId×Value->H} {W:World} {sp:Nat->Bool} {held:Bool} {r:Reach} {b0:Nat} {v:Value} {d:DataW H} {ps:List MemPlace}
theorem Ib {c d:Value} {cs:List Value} (h:cs=[d]) (hc:[c]=cs):c=d:=by
 subst h;simpa using hc
theorem Ye (fuel:Nat) (cs:List Value) (x:DataW H×List MemPlace) (h:DataW.trod enc Tryz.prog W 0 sp held fuel 46 cs=some x):∃ e:E6,cs=U6 e:=by
 obtain ⟨xs,n,_,_,hl,hx,hf⟩:=DataW.trod_struct Tryz.underlying46 h;have hl:cs.length=6:=hl.trans (by kernel_rfl);have hx:xs.length=6:=hx;obtain ⟨c0,c1,c2,c3,c4,c5,rfl⟩:∃ a b c d e f,cs=[a,b,c,d,e,f]:=by
  match cs,hl with
  | [a,b,c,d,e,f],_=>exact ⟨a,b,c,d,e,f,rfl⟩
 have get:∀ (i:Nat) (f:Field),#[({ name := "Kind",type:=3,offset:=0,embedded:=false,tag := "",pkgPath := "",byteOffset:=0 }:Field),
    { name := "Ext",type:=4,offset:=1,embedded:=false,tag := "",pkgPath := "",byteOffset:=8 },
    { name := "Same",type:=4,offset:=2,embedded:=false,tag := "",pkgPath := "",byteOffset:=9 },
    { name := "Src",type:=3,offset:=3,embedded:=false,tag := "",pkgPath := "",byteOffset:=16 },
    { name := "Dst",type:=3,offset:=4,embedded:=false,tag := "",pkgPath := "",byteOffset:=24 },
    { name := "Fence",type:=3,offset:=5,embedded:=false,tag := "",pkgPath := "",byteOffset:=32 }][i]? = some f->i<6 ->
   ∃ y,DataW.trod enc Tryz.prog W 0 sp held n f.type (([c0,c1,c2,c3,c4,c5].drop f.offset).take (Tryz.prog.cellsOf f.type))=some y:=by
  intro i f hi hlt;have:=hf i f hi;rw [List.getElem?_eq_getElem (by omega)] at this;exact ⟨_,this⟩
 have n3:Tryz.prog.cellsOf 3=1:=by kernel_rfl
 have n4:Tryz.prog.cellsOf 4=1:=by kernel_rfl
 obtain ⟨y0,g0⟩:=get 0 _ rfl (by omega);obtain ⟨y1,g1⟩:=get 1 _ rfl (by omega);obtain ⟨y2,g2⟩:=get 2 _ rfl (by omega);obtain ⟨y3,g3⟩:=get 3 _ rfl (by omega);obtain ⟨y4,g4⟩:=get 4 _ rfl (by omega);obtain ⟨y5,g5⟩:=get 5 _ rfl (by omega);have g0:DataW.trod enc Tryz.prog W 0 sp held n 3 (([c0,c1,c2,c3,c4,c5].drop 0).take (Tryz.prog.cellsOf 3))=some y0:=g0;rw [n3] at g0;have g1:DataW.trod enc Tryz.prog W 0 sp held n 4 (([c0,c1,c2,c3,c4,c5].drop 1).take (Tryz.prog.cellsOf 4))=some y1:=g1;rw [n4] at g1;have g2:DataW.trod enc Tryz.prog W 0 sp held n 4 (([c0,c1,c2,c3,c4,c5].drop 2).take (Tryz.prog.cellsOf 4))=some y2:=g2;rw [n4] at g2;have g3:DataW.trod enc Tryz.prog W 0 sp held n 3 (([c0,c1,c2,c3,c4,c5].drop 3).take (Tryz.prog.cellsOf 3))=some y3:=g3;rw [n3] at g3;have g4:DataW.trod enc Tryz.prog W 0 sp held n 3 (([c0,c1,c2,c3,c4,c5].drop 4).take (Tryz.prog.cellsOf 3))=some y4:=g4;rw [n3] at g4;have g5:DataW.trod enc Tryz.prog W 0 sp held n 3 (([c0,c1,c2,c3,c4,c5].drop 5).take (Tryz.prog.cellsOf 3))=some y5:=g5;rw [n3] at g5;obtain ⟨a0,e0,_⟩:=DataW.trod_int Tryz.underlying3 g0;obtain ⟨a1,e1,_⟩:=DataW.trod_bool Tryz.underlying4 g1;obtain ⟨a2,e2,_⟩:=DataW.trod_bool Tryz.underlying4 g2;obtain ⟨a3,e3,_⟩:=DataW.trod_int Tryz.underlying3 g3;obtain ⟨a4,e4,_⟩:=DataW.trod_int Tryz.underlying3 g4;obtain ⟨a5,e5,_⟩:=DataW.trod_int Tryz.underlying3 g5;have e0:c0 = .int .i64 a0:=Ib e0 rfl;have e1:c1 = .bool a1:=Ib e1 rfl;have e2:c2 = .bool a2:=Ib e2 rfl;have e3:c3 = .int .i64 a3:=Ib e3 rfl;have e4:c4 = .int .i64 a4:=Ib e4 rfl;have e5:c5 = .int .i64 a5:=Ib e5 rfl;exact ⟨⟨a0,a1,a2,a3,a4,a5⟩,by rw [e0,e1,e2,e3,e4,e5]; rfl⟩
theorem Ah0 (S:Nat->Prop) (w:World) (κ:Aj) (e:E6):VR S w (eV e) κ (.agg (U6 e).toArray) :=
 ⟨_,rfl,_,_,rfl,rfl,_,_,rfl,rfl,_,_,rfl,rfl,_,_,rfl,rfl,_,_,rfl,rfl,_,_,rfl,rfl,rfl⟩
def AiB (W:World) (v:Value) (u:V):Prop:=VR (WF W) W u noK v
theorem Nc (hval:Value.okWide Tryz.prog W r b0 3 v) (h:DataW.Trod enc Tryz.prog W 0 sp held 3 v d ps):∃ n:Int,AiB W v (iV n):=by
 obtain ⟨n,rfl,_⟩:=ChangeShapes.open_int Tryz.underlying3 hval h;exact ⟨n,rfl⟩
instance:Inhabited E6:=⟨Ca⟩
theorem Vj (hval:Value.okWide Tryz.prog W r b0 22 v) (h:DataW.Trod enc Tryz.prog W 0 sp held 22 v d ps) :
  ∃ (n:Nat) (xs:Nat->E6),AiB W v (.sl 6 n λi=>eV (xs i))∧(n=0 ∨ ∃ els rest,d = .slice els rest∧els.length=n) :=
 Xu (f:=U6) (g:=eV) (s:=6) Tryz.underlying22 (by kernel_rfl) (by omega) (λe u hu=>by simp [U6] at hu; rcases hu with rfl | rfl | rfl | rfl | rfl | rfl <;> rfl)
  (λS w e=>⟨_,Ah0 S w noK e,rfl⟩) Ye hval h
end
theorem ApQ {S:Nat->Prop} {W:World}:ML Gl S W:=λ_=>trivial
noncomputable def Nv (os:Os):World:=World.holding Tryz.prog os ⟨#[],#[],[]⟩
end Go.Proofs.YtkbgidbledjejaaGreat.En
