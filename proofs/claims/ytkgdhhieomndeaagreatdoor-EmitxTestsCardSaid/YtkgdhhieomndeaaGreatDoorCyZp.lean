/-
  Layer 7: whether lists of numbers, lists of these, shapes are the same. No conditions.
-/
import Derived.Test.YtkgdhhieomndeaaGreatDoorShF
import Derived.Test.YtkgdhhieomndeaaGreatDoorEdX
import Derived.Test.YtkgdhhieomndeaaGreatDoorCyT
import Derived.Test.YtkgdhhieomndeaaGreatDoorShW
namespace Go.Proofs.YtkgdhhieomndeaaGreatDoor.Sh
open Go.Sy Ed
open Int (ofNat)
set_option maxHeartbeats 1000000
set_option maxRecDepth 4000
theorem CA {n:Nat} (h:Aj n=true):n <= 4611686018427387904:=of_decide_eq_true h
theorem Bq {a b:Bool} (h:a=true):Al a b=b:=by rw [h]; rfl
theorem W1 {a b:Bool} (h:a=false):Al a b=false:=by rw [h]; rfl
theorem BX {n m:Nat} (h:ieq (ofNat n) (ofNat m)=true):n=m:=by
 rw [Ds] at h;exact of_decide_eq_true h
def CJ (n:Nat) (f:Nat->Int) (m:Nat) (g:Nat->Int):Bool:=Al (ieq (ofNat n) (ofNat m)) (AB n λk=>ieq (f k) (g k))
def Amp:Lp:=⟨bmK 26 0 [0,1,4,5],0,bmK 26 0 [4],0,4611686018427387905⟩
def S30 (n:Nat) (f:Nat->Int) (m:Nat) (g:Nat->Int) (c:Int) (a:Unit) (j:Nat->V):St:=⟨jsV 26 0 j [(0,.sl 1 n (λi=>iV (f i))),(1,.sl 1 m (λi=>iV (g i))),(4,bV false),(5,iV c)],[]⟩
noncomputable def B30 (L:LT):St->T (Ex×St):=λst=>A7 tab ⟨Ap tb0,L,Gl⟩ (Ar Tryz.f30 0) 0 st
def AjQ (n:Nat) (f:Nat->Int) (m:Nat) (g:Nat->Int) (i:Nat) (a:Unit):Ex×St:=(.rt,⟨jsV 26 0 Aa [(4,bV false)],[]⟩)
def g30 (n:Nat) (f:Nat->Int) (m:Nat) (g:Nat->Int) (i:Nat) (a:Unit):T ((Unit) ⊕ (Ex×St)):=.br (ieq (f i) (g i)) (.leaf (.inl ())) (.leaf (.inr (AjQ n f m g i a)))
def AmD (n:Nat) (f:Nat->Int) (m:Nat) (g:Nat->Int) (a:Unit):Ex×St:=(.ex 0,⟨jsV 26 0 Aa [(4,bV false)],[]⟩)
theorem r30 (L:LT) (n:Nat) (f:Nat->Int) (m:Nat) (g:Nat->Int) (hm:n=m) (hn:n <= 4611686018427387904) {e:Ex×St} {a:Unit} {j:Nat->V} (h:Cy (g30 n f m g) (AmD n f m g) n 0 a=some e):(A3 (B30 L) Amp 4611686018427387905 (S30 n f m g 0 a j)).sem=some (exR e) :=
 Cd Dx hn (λi a j r hi h=>DK.ok (L:=goR (S30 n f m g) exR i) (.k (ofNat_lt hi) <| .k (Ao hi) <| .k (Ao (hm ▸ hi)) <| .c (λh1=>.k (eN h1) <| .l) λh1=>.k (eN h1) <| .l) (by kernel_rfl) h) (λa j=>DK.ok (C:=.leaf (AmD n f m g a)) (L:=exR) (.k (A1 (Nat.le_refl n)) .l) (by kernel_rfl) rfl) (Nat.zero_add _).symm (Nat.lt_succ_of_le hn) h
def Ae2:List (Nat×Lp×List (Nat×(Nat->V))):=[(0,Amp,[])]
def C30 (n:Nat) (f:Nat->Int) (m:Nat) (g:Nat->Int):AR:=.br (ieq (ofNat n) (ofNat m)) (.br (AB n λk=>ieq (f k) (g k)) (.leaf ((bV true),[])) (.leaf ((bV false),[]))) (.leaf ((bV false),[]))
theorem AfA (n:Nat) (f:Nat->Int) (m:Nat) (g:Nat->Int):(C30 n f m g).sem=some (bV (CJ n f m g),[]):=by
 unfold C30 CJ;cases ieq (ofNat n) (ofNat m)
 ·rfl
 cases AB n λk=>ieq (f k) (g k) <;> rfl
def HY:List V->AR
 | [v,u]=>apG ML v λn f=>apG ML u λm g=>.br (Aj n) (.leaf (bV (CJ n f m g),[])) .fail
 | _=>.fail
theorem p61:Ax Tryz.prog Gl 30 HY:=by
 refine Am A8 mixed Tryz.func30 (by kernel_rfl) (by kernel_rfl) λvs v h' h=>?_;unfold HY at h;split at h
 ·rename_i v1 u1
  obtain ⟨n,f,a1,h⟩:=Bs h;obtain ⟨m,g,a2,h⟩:=Bs h;obtain ⟨hn,h⟩:=Ad h;have:=Ac h;simp only [Prod.mk.injEq] at this;obtain ⟨rfl,rfl⟩:=this;have hn:=CA hn;have w:DK (λa=>a) (C30 n f m g) _:=.c (λh1=>.k (eN h1) <| .c (λh2=>.a (r30 (askL Ae2) n f m g (BX h1) hn (j:=λ_=>.und) (Pe (λ_ _=>rfl) h2)) <| .l) λh2=>.a (r30 (askL Ae2) n f m g (BX h1) hn (j:=λ_=>.und) (Pf (λ_ _=>rfl) h2)) <| .l) λh1=>.k (eN h1) <| .l
  have hx:=FK C8 Ae2 (G:=Gl);exact ⟨_,cxA Gl tb0 Ae2,_,(show Bf [v1,u1] [.sl 1 n (λi=>iV (f i)),.sl 1 m (λi=>iV (g i))] from λS w cs hv=>by
   obtain ⟨c,l,rfl,q1,c',l',rfl,q2,q3⟩:=hv;exact ⟨c,_,rfl,a1 S w c q1,c',l',rfl,a2 S w c' q2,q3⟩),rfl,hx.1,hx.2,DK.of (AfA n f m g) w (by kernel_rfl),Aw.refl _⟩
 ·cases h
def DJ (n:Nat) (ln:Nat->Nat) (co:Nat->Nat->Int) (m:Nat) (ln':Nat->Nat) (co':Nat->Nat->Int):Bool:=Al (ieq (ofNat n) (ofNat m)) (AB n λk=>CJ (ln k) (co k) (ln' k) (co' k))
noncomputable def Ah1:AP:=(30,HY)::[]
theorem Ad2:Av Tryz.prog Gl Ah1:=.cons p61 .nil
def Amo:Lp:=⟨bmK 27 0 [0,1,4,5],0,bmK 27 0 [4],0,4611686018427387905⟩
def S31 (n:Nat) (C:Nat->Nat×(Nat->Int)) (m:Nat) (D:Nat->Nat×(Nat->Int)) (c:Int) (a:Unit) (j:Nat->V):St:=⟨jsV 27 0 j [(0,.sl 1 n (λu=>.sl 1 (C u).1 (λi=>iV ((C u).2 i)))),(1,.sl 1 m (λu=>.sl 1 (D u).1 (λi=>iV ((D u).2 i)))),(4,bV false),(5,iV c)],[]⟩
noncomputable def B31 (L:LT):St->T (Ex×St):=λst=>A7 tab ⟨Ap Ah1,L,Gl⟩ (Ar Tryz.f31 0) 0 st
def AjP (n:Nat) (C:Nat->Nat×(Nat->Int)) (m:Nat) (D:Nat->Nat×(Nat->Int)) (i:Nat) (a:Unit):Ex×St:=(.rt,⟨jsV 27 0 Aa [(4,bV false)],[]⟩)
def g31 (n:Nat) (C:Nat->Nat×(Nat->Int)) (m:Nat) (D:Nat->Nat×(Nat->Int)) (i:Nat) (a:Unit):T ((Unit) ⊕ (Ex×St)):=.br (CJ (C i).1 (C i).2 (D i).1 (D i).2) (.leaf (.inl ())) (.leaf (.inr (AjP n C m D i a)))
def AmC (n:Nat) (C:Nat->Nat×(Nat->Int)) (m:Nat) (D:Nat->Nat×(Nat->Int)) (a:Unit):Ex×St:=(.ex 0,⟨jsV 27 0 Aa [(4,bV false)],[]⟩)
theorem r31 (L:LT) (n:Nat) (C:Nat->Nat×(Nat->Int)) (m:Nat) (D:Nat->Nat×(Nat->Int)) (hm:n=m) (hs:(AB n λk=>Aj (C k).1)=true) (hn:n <= 4611686018427387904) {e:Ex×St} {a:Unit} {j:Nat->V} (h:Cy (g31 n C m D) (AmC n C m D) n 0 a=some e):(A3 (B31 L) Amo 4611686018427387905 (S31 n C m D 0 a j)).sem=some (exR e) :=
 Cd Dx hn (λi a j r hi h=>DK.ok (L:=goR (S31 n C m D) exR i) (.k (ofNat_lt hi) <| .k (Ao hi) <| .k (Ao (hm ▸ hi)) <| .k (eL (C i).1) <| .k (eL (D i).1) <| .k (A0.1 hs i hi) <| .c (λh1=>.k (eN h1) <| .l) λh1=>.k (eN h1) <| .l) (by kernel_rfl) h) (λa j=>DK.ok (C:=.leaf (AmC n C m D a)) (L:=exR) (.k (A1 (Nat.le_refl n)) .l) (by kernel_rfl) rfl) (Nat.zero_add _).symm (Nat.lt_succ_of_le hn) h
def Ae1:List (Nat×Lp×List (Nat×(Nat->V))):=[(0,Amo,[])]
def C31 (n:Nat) (C:Nat->Nat×(Nat->Int)) (m:Nat) (D:Nat->Nat×(Nat->Int)):AR:=.br (ieq (ofNat n) (ofNat m)) (.br (AB n λk=>CJ (C k).1 (C k).2 (D k).1 (D k).2) (.leaf ((bV true),[])) (.leaf ((bV false),[]))) (.leaf ((bV false),[]))
theorem Af9 (n:Nat) (C:Nat->Nat×(Nat->Int)) (m:Nat) (D:Nat->Nat×(Nat->Int)):(C31 n C m D).sem=some (bV (DJ n (λi=>(C i).1) (λi=>(C i).2) m (λi=>(D i).1) (λi=>(D i).2)),[]):=by
 unfold C31 DJ;cases ieq (ofNat n) (ofNat m)
 ·rfl
 cases AB n λk=>CJ (C k).1 (C k).2 (D k).1 (D k).2 <;> rfl
def Ve:List V->AR
 | [v,u]=>apG Sd v λn C=>apG Sd u λm D=>.br (Aj n) (.br (AB n λi=>Aj (C i).1) (.leaf (bV (DJ n (λi=>(C i).1) (λi=>(C i).2) m (λi=>(D i).1) (λi=>(D i).2)),[])) .fail) .fail
 | _=>.fail
theorem p62:Ax Tryz.prog Gl 31 Ve:=by
 refine Am A8 mixed Tryz.func31 (by kernel_rfl) (by kernel_rfl) λvs v h' h=>?_;unfold Ve at h;split at h
 ·rename_i v1 u1
  obtain ⟨n,C,a1,h⟩:=Bs h;obtain ⟨m,D,a2,h⟩:=Bs h;obtain ⟨hn,h⟩:=Ad h;obtain ⟨hs,h⟩:=Ad h;have:=Ac h;simp only [Prod.mk.injEq] at this;obtain ⟨rfl,rfl⟩:=this;have w:DK (λa=>a) (C31 n C m D) _:=.c (λh1=>.k (eN h1) <| .c (λh2=>.a (r31 (askL Ae1) n C m D (BX h1) hs (CA hn) (j:=λ_=>.und) (Pe (λ_ _=>rfl) h2)) <| .l) λh2=>.a (r31 (askL Ae1) n C m D (BX h1) hs (CA hn) (j:=λ_=>.und) (Pf (λ_ _=>rfl) h2)) <| .l) λh1=>.k (eN h1) <| .l
  have hx:=FK Ad2 Ae1 (G:=Gl);exact ⟨_,cxA Gl Ah1 Ae1,_,(show Bf [v1,u1] [.sl 1 n (λu=>.sl 1 (C u).1 (λi=>iV ((C u).2 i))),.sl 1 m (λu=>.sl 1 (D u).1 (λi=>iV ((D u).2 i)))] from λS w cs hv=>by
   obtain ⟨c,l,rfl,q1,c',l',rfl,q2,q3⟩:=hv;exact ⟨c,_,rfl,a1 S w c q1,c',l',rfl,a2 S w c' q2,q3⟩),rfl,hx.1,hx.2,DK.of (Af9 n C m D) w (by kernel_rfl),Aw.refl _⟩
 ·cases h
def F6 (e e':Ev5):Bool:=Al (ieq e.th e'.th) (Al (ieq e.pl e'.pl) (Al (ieq e.dir e'.dir) (Al (ieq e.loc e'.loc) (Al (ieq e.val e'.val) true))))
noncomputable def tb16:AP:=(29,WK)::(30,HY)::(31,Ve)::[]
theorem tb16_ok:Av Tryz.prog Gl tb16:=.cons p42 <| .cons p61 <| .cons p62 .nil
def FZ (s s':Sh7):Bool:=Al (ieq s.arch s'.arch) (Al (ieq s.tt s'.tt) (Al (ieq s.kk s'.kk) (Al (Cv s.ne s.E s'.ne s'.E) (Al (ieq (ofNat s.nx) (ofNat s'.nx)) (Al (CJ s.nr s.R s'.nr s'.R)
 (Al (DJ s.nc (λi=>(s.C i).1) (λi=>(s.C i).2) s'.nc (λi=>(s'.C i).1) (λi=>(s'.C i).2)) (AB s.nx λk=>F6 (s.X k) (s'.X k))))))))
def BM (s:Sh7):Bool:=Al (Aj s.ne) (Al (Aj s.nx) (Al (Aj s.nr) (Al (Aj s.nc) (AB s.nc λi=>Aj (s.C i).1))))
def lp9:Lp:=⟨bmK 76 0 [2,3,4,5],2,bmK 76 0 [4],0,4611686018427387905⟩
def S9 (s s':Sh7) (c:Int) (a:Unit) (j:Nat->V):St:=⟨jsV 76 0 j [(2,.ptr 0 0),(3,.ptr 1 0),(4,bV false),(5,iV c)],[.cells [iV s.arch,.sl 6 s.ne (λi=>eV (s.E i)),.sl 5 s.nx (λi=>evV (s.X i)),iV s.tt,iV s.kk,.sl 1 s.nr (λi=>iV (s.R i)),.sl 1 s.nc (λu=>.sl 1 (s.C u).1 (λi=>iV ((s.C u).2 i)))],.cells [iV s'.arch,.sl 6 s'.ne (λi=>eV (s'.E i)),.sl 5 s'.nx (λi=>evV (s'.X i)),iV s'.tt,iV s'.kk,.sl 1 s'.nr (λi=>iV (s'.R i)),.sl 1 s'.nc (λu=>.sl 1 (s'.C u).1 (λi=>iV ((s'.C u).2 i)))]]⟩
noncomputable def B9 (L:LT):St->T (Ex×St):=λst=>A7 tab ⟨Ap tb16,L,Gl⟩ (Ar Tryz.f9 0) 0 st
def Ano (s s':Sh7) (i:Nat) (a:Unit):Ex×St:=(.rt,⟨jsV 76 0 Aa [(4,bV false)],[]⟩)
def g9 (s s':Sh7) (i:Nat) (a:Unit):T ((Unit) ⊕ (Ex×St)):=.br (Al (ieq (s.X i).th (s'.X i).th) (Al (ieq (s.X i).pl (s'.X i).pl) (Al (ieq (s.X i).dir (s'.X i).dir) (Al (ieq (s.X i).loc (s'.X i).loc) (Al (ieq (s.X i).val (s'.X i).val) true))))) (.leaf (.inl ())) (.leaf (.inr (Ano s s' i a)))
def fn9 (s s':Sh7) (a:Unit):Ex×St:=(.ex 0,⟨jsV 76 0 Aa [(4,bV false)],[]⟩)
theorem r9 (L:LT) (s s':Sh7) (hm:s.nx=s'.nx) (hn:s.nx <= 4611686018427387904) {e:Ex×St} {a:Unit} {j:Nat->V} (h:Cy (g9 s s') (fn9 s s') s.nx 0 a=some e):(A3 (B9 L) lp9 4611686018427387905 (S9 s s' 0 a j)).sem=some (exR e) :=
 Cd Dx hn (λi a j r hi h=>DK.ok (L:=goR (S9 s s') exR i) (.k (ofNat_lt hi) <| .k (Ao hi) <| .k (Ao (hm ▸ hi)) <| .c (λh1=>.k (eN h1) <| .l) λh1=>.k (eN h1) <| .l) (by kernel_rfl) h) (λa j=>DK.ok (C:=.leaf (fn9 s s' a)) (L:=exR) (.k (A1 (Nat.le_refl s.nx)) .l) (by kernel_rfl) rfl) (Nat.zero_add _).symm (Nat.lt_succ_of_le hn) h
def ls9:List (Nat×Lp×List (Nat×(Nat->V))):=[(0,lp9,[])]
def C9 (s s':Sh7):AR:=.br (ieq s.arch s'.arch) (.br (ieq s.tt s'.tt) (.br (ieq s.kk s'.kk) (.br (Cv s.ne (λi=>s.E i) s'.ne (λi=>s'.E i)) (.br (ieq (ofNat s.nx) (ofNat s'.nx)) (.br (CJ s.nr s.R s'.nr s'.R) (.br (DJ s.nc (λi=>(s.C i).1) (λi i_1=>(s.C i).2 i_1) s'.nc (λi=>(s'.C i).1) (λi i_1=>(s'.C i).2 i_1)) (.br (AB s.nx λk=>F6 (s.X k) (s'.X k)) (.leaf ((bV true),[])) (.leaf ((bV false),[]))) (.leaf ((bV false),[]))) (.leaf ((bV false),[]))) (.leaf ((bV false),[]))) (.leaf ((bV false),[]))) (.leaf ((bV false),[]))) (.leaf ((bV false),[]))) (.leaf ((bV false),[]))
theorem AjH (s s':Sh7):(C9 s s').sem=some (bV (FZ s s'),[]):=by
 unfold C9 FZ;cases ieq s.arch s'.arch
 ·rfl
 cases ieq s.tt s'.tt
 ·rfl
 cases ieq s.kk s'.kk
 ·rfl
 cases Cv s.ne s.E s'.ne s'.E
 ·rfl
 cases ieq (ofNat s.nx) (ofNat s'.nx)
 ·rfl
 cases CJ s.nr s.R s'.nr s'.R
 ·rfl
 cases DJ s.nc (λi=>(s.C i).1) (λi=>(s.C i).2) s'.nc (λi=>(s'.C i).1) (λi=>(s'.C i).2)
 ·rfl
 cases AB s.nx λk=>F6 (s.X k) (s'.X k) <;> rfl
def Hh:List V->AR
 | [v,u]=>apS v λs=>apS u λs'=>.br (BM s) (.leaf (bV (FZ s s'),[])) .fail
 | _=>.fail
theorem p16:Ax Tryz.prog Gl 9 Hh:=by
 refine Am A8 mixed Tryz.func9 (by kernel_rfl) (by kernel_rfl) λvs v h' h=>?_;unfold Hh at h;split at h
 ·rename_i v1 u1
  obtain ⟨s,a1,h⟩:=apS_some h;obtain ⟨s',a2,h⟩:=apS_some h;obtain ⟨hn,h⟩:=Ad h;have:=Ac h;simp only [Prod.mk.injEq] at this;obtain ⟨rfl,rfl⟩:=this;have hn:Aj s.ne=true∧Aj s.nx=true∧Aj s.nr=true∧Aj s.nc=true∧(AB s.nc λi=>Aj (s.C i).1)=true:=by simpa [BM,Al] using hn
  obtain ⟨n1,n2,n3,n4,n5⟩:=hn;have w:DK (λa=>a) (C9 s s') _:=.c (λh1=>.r 6 (eN h1) <| .c (λh2=>.r 6 (eN h2) <| .c (λh3=>.r 5 (eN h3) <| .k (eL s.ne) <| .k (eL s'.ne) <| .k n1 <| .r 2 (eN h3) <| .c (λh4=>.r 8 (eN h4) <| .c (λh5=>.r 5 (eN h5) <| .k (eL s.nr) <| .k (eL s'.nr) <| .k n3 <| .r 2 (eN h5) <| .c (λh6=>.r 5 (eN h6) <| .k (eL2 s.nc s.C) <| .k (eL2 s'.nc s'.C) <| .k n4 <| .k n5 <| .r 2 (eN h6) <| .c (λh7=>.k (eN h7) <| .c (λh8=>.a (r9 (askL ls9) s s' (BX h5) (CA n2) (j:=λ_=>.und) (Pe (λ_ _=>rfl) h8)) <| .l) λh8=>.a (r9 (askL ls9) s s' (BX h5) (CA n2) (j:=λ_=>.und) (Pf (λ_ _=>rfl) h8)) <| .l) λh7=>.k (eN h7) <| .l) λh6=>.r 7 (eN h6) <| .k eT <| .l) λh5=>.r 7 (eN h5) <| .r 8 eT <| .l) λh4=>.r 8 (eN h4) <| .r 15 eT <| .l) λh3=>.r 7 (eN h3) <| .r 23 eT <| .l) λh2=>.r 6 (eN h2) <| .r 30 eT <| .l) λh1=>.r 6 (eN h1) <| .r 36 eT <| .l
  have hx:=FK tb16_ok ls9 (G:=Gl);exact ⟨_,cxA Gl tb16 ls9,_,(show Bf [v1,u1] [L4 s,L4 s'] from λS w cs hv=>by
   obtain ⟨c,l,rfl,q1,c',l',rfl,q2,q3⟩:=hv;exact ⟨c,_,rfl,a1 S w c q1,c',l',rfl,a2 S w c' q2,q3⟩),rfl,hx.1,hx.2,DK.of (AjH s s') w (by kernel_rfl),Aw.refl _⟩
 ·cases h
end Go.Proofs.YtkgdhhieomndeaaGreatDoor.Sh
namespace Go.Proofs.YtkgdhhieomndeaaGreatDoor.Ed
open Go.Sy Go
def GE (c:UInt8):Bool:=c == 32 || c == 9 || c == 10 || c == 13
def Fc (x:Int):Bool:=bor (ieq x 32) (bor (ieq x 9) (bor (ieq x 10) (ieq x 13)))
theorem Nu (c:UInt8) (n:Nat) (hn:n<256):ieq ((c.toNat:Nat):Int) (n:Int)=(c == UInt8.ofNat n):=by
 rw [Bool.eq_iff_iff];simp only [ieq,beq_iff_eq];constructor
 ·intro h
  apply UInt8.toNat_inj.1;rw [UInt8.toNat_ofNat_of_lt' (by simpa using hn)];omega
 ·intro h
  rw [h,UInt8.toNat_ofNat_of_lt' (by simpa using hn)]
theorem AcN (c:UInt8):Fc ((c.toNat:Nat):Int)=GE c:=by
 unfold Fc GE bor;have h1:=Nu c 32 (by decide);have h2:=Nu c 9 (by decide);have h3:=Nu c 10 (by decide);have h4:=Nu c 13 (by decide);have h1:ieq ((c.toNat:Nat):Int) 32=(c == 32):=h1;have h2:ieq ((c.toNat:Nat):Int) 9=(c == 9):=h2;have h3:ieq ((c.toNat:Nat):Int) 10=(c == 10):=h3;have h4:ieq ((c.toNat:Nat):Int) 13=(c == 13):=h4;rw [h1,h2,h3,h4];cases (c == 32) <;> cases (c == 9) <;> cases (c == 10) <;> rfl
def BD (l:List UInt8):List UInt8:=l.takeWhile λc=>!GE c
def CD:Nat->List UInt8->Nat->List E6->List E6×Int×Nat
 | 0,_,_,acc=>(acc,0,0)
 | _+1,[],_,acc=>(acc,0,0)
 | q+1,c::l,a,acc =>
  if GE c=true then CD q l (a+1) acc
  else if EW (BD (c::l))=0 then CD q ((c::l).drop (BD (c::l)).length) (a+(BD (c::l)).length) (acc++[EX (BD (c::l))])
  else ([],30,a)
theorem Tp {b:UInt8} (hb:GE b=true) (l:List UInt8) (q a:Nat) (acc:List E6):CD (q+1) (b::l) a acc=CD q l (a+1) acc:=by
 rw [CD,if_pos hb]
theorem Z4 (l:List UInt8):(BD l).length <= l.length:=by
 induction l with
 | nil=>exact Nat.le_refl _
 | cons c l ih =>
  unfold BD at ih ⊢;cases hc:GE c with
  | true=>rw [List.takeWhile_cons_of_neg (by simp [hc])]; exact Nat.zero_le _
  | false =>rw [List.takeWhile_cons_of_pos (by simp [hc])];simp only [List.length_cons];omega
section
variable (L:LT) (x:Int)
include L x
theorem Aki (h0:ieq x 32=true):(Az (Ak tab ⟨Ap tb0,L,Gl⟩ Tryz.f50 [.val (.int .u8 x)] [])).sem=some ((bV true),[]):=by
 exact Ab (ks:=[kn h0,kn h0,kn h0,kT,kT,kT,kT,kT,kT]) (by kernel_rfl)
theorem Akh (h0:ieq x 32=false) (h1:ieq x 9=true):(Az (Ak tab ⟨Ap tb0,L,Gl⟩ Tryz.f50 [.val (.int .u8 x)] [])).sem=some ((bV true),[]):=by
 exact Ab (ks:=[kn h0,kn h0,kn h0,kn h1,kn h1,kn h1,kT,kT,kT]) (by kernel_rfl)
theorem Akg (h0:ieq x 32=false) (h1:ieq x 9=false) (h2:ieq x 10=true):(Az (Ak tab ⟨Ap tb0,L,Gl⟩ Tryz.f50 [.val (.int .u8 x)] [])).sem=some ((bV true),[]):=by
 exact Ab (ks:=[kn h0,kn h0,kn h0,kn h1,kn h1,kn h1,kn h2,kn h2,kn h2]) (by kernel_rfl)
theorem Akf (h0:ieq x 32=false) (h1:ieq x 9=false) (h2:ieq x 10=false):(Az (Ak tab ⟨Ap tb0,L,Gl⟩ Tryz.f50 [.val (.int .u8 x)] [])).sem=some ((bV (ieq x 13)),[]):=by
 exact Ab (ks:=[kn h0,kn h0,kn h0,kn h1,kn h1,kn h1,kn h2,kn h2,kn h2]) (by kernel_rfl)
end
def Wx:List V->AR
 | [.val (.int .u8 x)]=>out (bV (Fc x))
 | _=>.fail
theorem Afd {α:Type} {l:List α} {i:Nat} {d:α} (h:i<l.length):l.getD i d=l[i]:=by simp [List.getD,h]
theorem Fz {s:List UInt8} {a:Nat} (h:a<s.length):s.drop a=s[a]::s.drop (a+1):=List.drop_eq_getElem_cons h
theorem MT {s:List UInt8} {a:Nat} (h:a<s.length):Fc (Ek s a)=GE s[a]:=by
 unfold Ek;rw [Afd h];exact AcN _
def LR (l:List E6) (i:Nat):E6:=l.getD i E8
theorem TO {l:List E6} {e:E6} {i:Nat} (h:i<l.length+1):LR (l++[e]) i=if i=l.length then e else LR l i:=by
 unfold LR;by_cases hi:i=l.length
 ·rw [if_pos hi,hi]; simp
 ·rw [if_neg hi]
  simp only [List.getD,List.getElem?_append_left (show i<l.length by omega)]
def El (acc:List E6):Nat->V:=Br (λi=>eV (LR acc i)) acc.length
theorem Mu {g g':Nat->V}:∀ n,(∀ i,i<n->g i=g' i)->Br g n=Br g' n
 | 0,_=>rfl
 | n+1,h=>by
  show As n (Br g n) (g n)=As n (Br g' n) (g' n);rw [h n (Nat.lt_succ_self n),Mu n λi hi=>h i (by omega)]
theorem Yv (acc:List E6) (e:E6):As acc.length (El acc) (eV e)=El (acc++[e]):=by
 have h1:El (acc++[e])=Br (λi=>eV (LR (acc++[e]) i)) (acc.length+1):=by
  unfold El;rw [List.length_append];rfl
 rw [h1];show _=As acc.length (Br (λi=>eV (LR (acc++[e]) i)) acc.length) (eV (LR (acc++[e]) acc.length));rw [TO (Nat.lt_succ_self _),if_pos rfl];unfold El;rw [Mu (g:=λi=>eV (LR (acc++[e]) i)) (g':=λi=>eV (LR acc i)) acc.length λi hi=>by
  show eV (LR (acc++[e]) i)=eV (LR acc i);rw [TO (by omega),if_neg (by omega)]]
def Jj:Nat->List UInt8->List E6->List E6×E6
 | 0,_,acc=>(acc,E8)
 | _+1,[],acc=>(acc,E8)
 | q+1,c::l,acc =>
  if GE c=true then Jj q l acc
  else if EW (BD (c::l))=0 then Jj q ((c::l).drop (BD (c::l)).length) (acc++[EX (BD (c::l))])
  else (acc,EX (BD (c::l)))
def AcP (s:List UInt8):Bool:=ilt 262144 (Int.ofNat (Bu s))
def psR (s:List UInt8):List E6×Int×Nat:=CD (s.length+1) s 0 []
def psL (s:List UInt8):List E6:=bif AcP s then [] else (psR s).1
def psE (s:List UInt8):Int:=bif AcP s then 2 else (psR s).2.1
def psI (s:List UInt8):Int:=bif AcP s then 0 else Int.ofNat (psR s).2.2
def psN (s:List UInt8):Nat:=(psL s).length
def psG (s:List UInt8) (i:Nat):E6:=LR (psL s) i
def psT:List V->AR
 | [.str s]=>.leaf (.tup [.ref 0,iV (psE s),iV (psI s)],[.row 92 6 (psN s) λi=>eV (psG s i)])
 | _=>.fail
theorem NW:∀ (q:Nat) (l:List UInt8) (a:Nat) (acc:List E6),(CD q l a acc).2.1=0->(CD q l a acc).2.2=0
 | 0,_,_,_,_=>rfl
 | q+1,[],_,_,_=>rfl
 | q+1,c::l,a,acc,h=>by
  rw [CD] at h ⊢;split
  ·rename_i hc
   rw [if_pos hc] at h;exact NW q _ _ _ h
  ·rename_i hc
   rw [if_neg hc] at h;split
   ·rename_i hp
    rw [if_pos hp] at h;exact NW q _ _ _ h
   ·rename_i hp
    rw [if_neg hp] at h;cases h
theorem Ajk {L:LT} (hL:LLe L L) (k:Nat) (r:Ex×St):LLe (onP k (isP L k r) r L) (onP k (isP L k r) r L):=λid f f' st hf r' hr=>by
 unfold onP at hr ⊢;cases hk:Nat.beq id k with
 | true =>rw [hk] at hr;obtain ⟨h1,h2⟩:=Ad hr;unfold isP at h1;have h1:=@of_decide_eq_true _ (Classical.propDecidable _) h1;have h3:isP L k r f' st=true:=Au (hL k f f' st hf _ h1);show sel (isP L k r f' st) _ _=_;rw [h3];exact h2
 | false =>rw [hk] at hr;exact hL id f f' st hf _ hr
end Go.Proofs.YtkgdhhieomndeaaGreatDoor.Ed
namespace Go.Proofs.YtkgdhhieomndeaaGreatDoor.Ed
open Go.Sy Go
open Int (ofNat)
theorem e84 (Γ:Cx) (vs:List V) (h:List Blk):Ak tab Γ Tryz.f50 vs h=Ak tab Γ Tryz.f50 vs h:=by kernel_rfl
theorem p84:Ax Tryz.prog Gl 50 Wx:=by
 refine Am A8 mixed Tryz.func50 (by kernel_rfl) (by kernel_rfl) λvs v h' h=>?_;unfold Wx at h;split at h
 ·rename_i x
  have:=Ac h;simp only [Prod.mk.injEq] at this;obtain ⟨rfl,rfl⟩:=this;have hx:=AI C8 [];refine ⟨_,AC Gl tb0 [],_,Bf.refl _,rfl,hx.1,hx.2,?_,Aw.refl _⟩;rw [e84];unfold Fc;cases c1:ieq x 32 with
  | true=>exact Aki _ x c1
  | false =>
   cases c2:ieq x 9 with
   | true=>exact Akh _ x c1 c2
   | false =>
    cases c3:ieq x 10 with
    | true=>exact Akg _ x c1 c2 c3
    | false=>exact Akf _ x c1 c2 c3
 ·cases h
noncomputable def tb41:AP:=(50,Wx)::(51,P5 Rv)::[]
theorem tb41_ok:Av Tryz.prog Gl tb41:=.cons p84 <| .cons p22 .nil
def Uf (s:List UInt8) (a k:Nat) (x:Nat->V):Ex×St:=(.rt,⟨jsV 56 0 Aa [(2,.ref 1),(3,iV 30),(4,nV a),(6,.ref 2)],[.row 92 6 0 Aa,.row 92 6 0 Aa,.row 92 6 k x]⟩)
def Dg (s:List UInt8):Lp:=⟨bmK 56 0 [0,2,3,4,5,6,7,8],3,bmK 56 0 [0,2,3,4,5,6,7,8],3,Bu s+1⟩
def ND (s:List UInt8) (a k:Nat) (x:Nat->V) (e:Nat) (j:Nat->V):St:=⟨jsV 56 0 j [(0,.str s),(2,.ref 0),(3,iV 0),(4,iV 0),(5,.ref 1),(6,.ref 2),(7,nV e),(8,nV a)],[.row 92 6 0 Aa,.row 92 6 0 Aa,.row 92 6 k x]⟩
def IV (s:List UInt8) (a k:Nat) (x:Nat->V) (e:Nat):Ex×St:=(.ex 2,⟨jsV 56 0 Aa [(0,.str s),(2,.ref 0),(3,iV 0),(4,iV 0),(5,.ref 1),(6,.ref 2),(7,nV e),(8,nV a)],[.row 92 6 0 Aa,.row 92 6 0 Aa,.row 92 6 k x]⟩)
noncomputable def FN (L:LT):St->T (Ex×St):=λst=>A7 tab ⟨Ap tb41,L,Gl⟩ (Ar Tryz.f32 2) 2 st
section
variable (L:LT) (s:List UInt8) (a k:Nat) (x:Nat->V) (e:Nat)  (j:Nat->V)
include L s a k x e j
theorem Alt (h0:ilt (ofNat e) (ofNat (Bu s))=false):Ah (FN L) (Dg s) (ND s a k x e j)=some ((.ex 2),⟨jsV 56 0 Aa [(0,.str s),(2,.ref 0),(3,iV 0),(4,iV 0),(5,.ref 1),(6,.ref 2),(7,nV e),(8,nV a)],[.row 92 6 0 Aa,.row 92 6 0 Aa,.row 92 6 k x]⟩):=by
 exact Ab (ks:=[kn h0,kn h0,kn h0,kn h0,kn h0,kn h0,kF]) (by kernel_rfl)
theorem Alu (h0:ilt (ofNat e) (ofNat (Bu s))=true) (h1:Al (ile 0 (ofNat e)) (ilt (ofNat e) (ofNat (Bu s)))=true) (h2:Fc (Ek s e)=true):Ah (FN L) (Dg s) (ND s a k x e j)=some ((.ex 2),⟨jsV 56 0 Aa [(0,.str s),(2,.ref 0),(3,iV 0),(4,iV 0),(5,.ref 1),(6,.ref 2),(7,nV e),(8,nV a)],[.row 92 6 0 Aa,.row 92 6 0 Aa,.row 92 6 k x]⟩):=by
 exact Ab (ks:=[kn h0,kn h0,kn h0,kn h1,kn h0,kn h0,kn h0,kN (kn h2)]) (by kernel_rfl)
theorem Als (h0:ilt (ofNat e) (ofNat (Bu s))=true) (h1:Al (ile 0 (ofNat e)) (ilt (ofNat e) (ofNat (Bu s)))=true) (h2:Fc (Ek s e)=false):Ah (FN L) (Dg s) (ND s a k x e j)=some (.nm,⟨jsV 56 0 Aa [(0,.str s),(2,.ref 0),(3,iV 0),(4,iV 0),(5,.ref 1),(6,.ref 2),(7,iV (wr .i64 (Af (ofNat e) 1))),(8,nV a)],[.row 92 6 0 Aa,.row 92 6 0 Aa,.row 92 6 k x]⟩):=by
 exact Ab (ks:=[kn h0,kn h0,kn h0,kn h1,kn h0,kn h0,kn h0,kN (kn h2)]) (by kernel_rfl)
end
def FD (s:List UInt8):Lp:=⟨bmK 56 0 [0,2,3,4,5,6,7],3,bmK 56 0 [2,3,4,6],3,Bu s+1⟩
def NE (s:List UInt8) (a k:Nat) (x:Nat->V) (j:Nat->V):St:=⟨jsV 56 0 j [(0,.str s),(2,.ref 0),(3,iV 0),(4,iV 0),(5,.ref 1),(6,.ref 2),(7,nV a)],[.row 92 6 0 Aa,.row 92 6 0 Aa,.row 92 6 k x]⟩
def Qz (s:List UInt8) (a k:Nat) (x:Nat->V):Ex×St:=(.ex 0,⟨jsV 56 0 Aa [(2,.ref 0),(3,iV 0),(4,iV 0),(6,.ref 2)],[.row 92 6 0 Aa,.row 92 6 0 Aa,.row 92 6 k x]⟩)
noncomputable def Fb (L:LT):St->T (Ex×St):=λst=>A7 tab ⟨Ap tb41,L,Gl⟩ (Ar Tryz.f32 0) 0 st
section
variable (L:LT) (s:List UInt8) (a k:Nat) (x:Nat->V)  (j:Nat->V)
include L s a k x j
theorem Alh (h0:ilt (ofNat a) (ofNat (Bu s))=false):Ah (Fb L) (FD s) (NE s a k x j)=some ((.ex 0),⟨jsV 56 0 Aa [(2,.ref 0),(3,iV 0),(4,iV 0),(6,.ref 2)],[.row 92 6 0 Aa,.row 92 6 0 Aa,.row 92 6 k x]⟩):=by
 exact Ab (ks:=[kn h0]) (by kernel_rfl)
theorem Ali (h0:ilt (ofNat a) (ofNat (Bu s))=true) (h1:Al (ile 0 (ofNat a)) (ilt (ofNat a) (ofNat (Bu s)))=true) (h2:Fc (Ek s a)=true):Ah (Fb L) (FD s) (NE s a k x j)=some (.nm,⟨jsV 56 0 Aa [(0,.str s),(2,.ref 0),(3,iV 0),(4,iV 0),(5,.ref 1),(6,.ref 2),(7,iV (wr .i64 (Af (ofNat a) 1)))],[.row 92 6 0 Aa,.row 92 6 0 Aa,.row 92 6 k x]⟩):=by
 exact Ab (ks:=[kn h0,kn h1,kn h2]) (by kernel_rfl)
end
def KE (s:List UInt8) (a k:Nat) (x:Nat->V) (j:Nat->V):St:=⟨jsV 56 0 j [(0,.str s),(2,.ref 0),(3,iV 0),(4,iV 0),(5,.ref 1),(6,.ref 2),(7,nV a),(8,nV a),(15,nV a),(16,.str s),(17,iV (ofNat (Bu s))),(18,bV (ilt (ofNat a) (ofNat (Bu s)))),(19,.str s),(20,nV a),(21,.val (Value.int IntKind.u8 (Ek s a))),(22,bV (Fc (Ek s a))),(25,nV a)],[.row 92 6 0 Aa,.row 92 6 0 Aa,.row 92 6 k x]⟩
section
variable (L:LT) (p2:PT) (s:List UInt8) (a k:Nat) (x:Nat->V) (e:Nat) (j:Nat->V)
include L p2 s a k x e j
theorem Alf (h0:ilt (ofNat a) (ofNat (Bu s))=true) (h1:Al (ile 0 (ofNat a)) (ilt (ofNat a) (ofNat (Bu s)))=true) (h2:Fc (Ek s a)=false) (h3:Al (ile 0 (ofNat a)) (Al (ile (ofNat a) (ofNat e)) (ile (ofNat e) (ofNat (Bu s))))=true) (h4:ieq (EW (Jq a (Jn e s))) 0=true) (h5:Ba k 1 40=true) (hp2:p2 (FN (onP 2 p2 (IV s a k x e) L)) (KE s a k x j)=true):Ah (Fb (onP 2 p2 (IV s a k x e) L)) (FD s) (NE s a k x j)=some (.nm,⟨jsV 56 0 Aa [(0,.str s),(2,.ref 0),(3,iV 0),(4,iV 0),(5,.ref 1),(6,.ref 2),(7,nV e)],[.row 92 6 0 Aa,.row 92 6 0 Aa,.row 92 6 (AS k 1) (As k x (eV (EX (Jq a (Jn e s)))))]⟩):=by
 exact Ab (ks:=[kn h0,kn h1,kn h2,kn hp2,kn h3,kN (kn h4),kn h5]) (by kernel_rfl)
theorem Alg (h0:ilt (ofNat a) (ofNat (Bu s))=true) (h1:Al (ile 0 (ofNat a)) (ilt (ofNat a) (ofNat (Bu s)))=true) (h2:Fc (Ek s a)=false) (h3:Al (ile 0 (ofNat a)) (Al (ile (ofNat a) (ofNat e)) (ile (ofNat e) (ofNat (Bu s))))=true) (h4:ieq (EW (Jq a (Jn e s))) 0=false) (hp2:p2 (FN (onP 2 p2 (IV s a k x e) L)) (KE s a k x j)=true):Ah (Fb (onP 2 p2 (IV s a k x e) L)) (FD s) (NE s a k x j)=some (.rt,⟨jsV 56 0 Aa [(2,.ref 1),(3,iV 30),(4,nV a),(6,.ref 2)],[.row 92 6 0 Aa,.row 92 6 0 Aa,.row 92 6 k x]⟩):=by
 exact Ab (ks:=[kn h0,kn h1,kn h2,kn hp2,kn h3,kN (kn h4)]) (by kernel_rfl)
end
def OL (s:List UInt8) :St:=⟨jsV 56 0 (λ_=>A9) [(0,.str s),(2,.ref 0),(3,iV 0),(4,iV 0),(5,.ref 1),(6,.ref 2),(7,iV 0),(11,.str s),(12,iV (ofNat (Bu s))),(13,bV (ilt 262144 (ofNat (Bu s))))],[.row 92 6 0 Aa,.row 92 6 0 Aa,.row 92 6 0 Aa]⟩
theorem Akt (L:LT) (s:List UInt8) (h0:ilt 262144 (ofNat (Bu s))=true):(Az (Ak tab ⟨Ap tb41,L,Gl⟩ Tryz.f32 [.str s] [])).sem=some ((.tup [.ref 0,iV 2,iV 0]),[.row 92 6 0 Aa]):=by
 exact Ab (ks:=[kn h0]) (by kernel_rfl)
section
variable (L:LT) (p0:PT) (s:List UInt8) (a k:Nat) (x:Nat->V)
include L p0 s a k x
theorem Aks (h0:ilt 262144 (ofNat (Bu s))=false) (hp0:p0 (Fb (onP 0 p0 (Qz s a k x) L)) (OL s)=true):(Az (Ak tab ⟨Ap tb41,onP 0 p0 (Qz s a k x) L,Gl⟩ Tryz.f32 [.str s] [])).sem=some ((.tup [.ref 0,iV 0,iV 0]),[.row 92 6 k x]):=by
 exact Ab (ks:=[kn h0,kn hp0]) (by kernel_rfl)
theorem Aku (h0:ilt 262144 (ofNat (Bu s))=false) (hp0:p0 (Fb (onP 0 p0 (Uf s a k x) L)) (OL s)=true):(Az (Ak tab ⟨Ap tb41,onP 0 p0 (Uf s a k x) L,Gl⟩ Tryz.f32 [.str s] [])).sem=some ((.tup [.ref 0,iV 30,nV a]),[.row 92 6 0 Aa]):=by
 exact Ab (ks:=[kn h0,kn hp0]) (by kernel_rfl)
end
theorem Aa1 (L:LT) (s:List UInt8) (hs:s.length <= 262144) (a k:Nat) (x:Nat->V):∀ (q e:Nat) (j:Nat->V),s.length-e<q ->
  (A3 (FN L) (Dg s) q (ND s a k x e j)).sem=some (IV s a k x (e+(BD (s.drop e)).length))
 | 0,e,j,h=>absurd h (Nat.not_lt_zero _)
 | q+1,e,j,h=>by
  have hsl:Bu s=s.length:=rfl;rcases Nat.lt_or_ge e s.length with he | he
  ·have c0:ilt (ofNat e) (ofNat (Bu s))=true:=ofNat_lt he
   have c1:Al (ile 0 (ofNat e)) (ilt (ofNat e) (ofNat (Bu s)))=true:=Ao he;rw [Fz he];cases hb:GE s[e] with
   | true =>rw [show BD (s[e]::s.drop (e+1))=[] by unfold BD; rw [List.takeWhile_cons_of_neg (by simp [hb])]];exact Ae (Alu L s a k x e j c0 c1 (by rw [MT he]; exact hb))
   | false =>rw [Ae (Als L s a k x e j c0 c1 (by rw [MT he]; exact hb)),Ay,Aq (n:=s.length) he (by omega)];have:=Aa1 L s hs a k x q (e+1) Aa (by omega);rw [show BD (s[e]::s.drop (e+1))=s[e]::BD (s.drop (e+1)) by unfold BD; rw [List.takeWhile_cons_of_pos (by simp [hb])],List.length_cons,show e+((BD (s.drop (e+1))).length+1)=e+1+(BD (s.drop (e+1))).length by omega];exact this
  ·rw [List.drop_eq_nil_of_le he]
   exact Ae (Alt L s a k x e j (A1 he))
theorem Wa (s:List UInt8) (a k:Nat) (x:Nat->V) (j:Nat->V):KE s a k x j=ND s a k x a (λi=>nth (KE s a k x j).t i):=by kernel_rfl
theorem Aa2 (M:LT) (hMM:LLe M M) (s:List UInt8) (hs:s.length <= 262144) (m2:∀ f st,M 2 f st=A3 f (Dg s) (Bu s+1) st):∀ (q a:Nat) (acc:List E6) (j:Nat->V),s.length-a<q->a <= s.length->acc.length <= a ->
  ((CD q (s.drop a) a acc).2.1=0∧(A3 (Fb M) (FD s) q (NE s a acc.length (El acc) j)).sem=some (Qz s 0 (CD q (s.drop a) a acc).1.length (El (CD q (s.drop a) a acc).1))) ∨
  ((CD q (s.drop a) a acc).2.1=30∧(CD q (s.drop a) a acc).1=[]∧(A3 (Fb M) (FD s) q (NE s a acc.length (El acc) j)).sem=some (Uf s (CD q (s.drop a) a acc).2.2 (Jj q (s.drop a) acc).1.length (El (Jj q (s.drop a) acc).1)))
 | 0,a,acc,j,h,_,_=>absurd h (Nat.not_lt_zero _)
 | q+1,a,acc,j,h,ha,hk=>by
  have hsl:Bu s=s.length:=rfl;rcases Nat.lt_or_ge a s.length with he | he
  ·have c0:ilt (ofNat a) (ofNat (Bu s))=true:=ofNat_lt he
   have c1:Al (ile 0 (ofNat a)) (ilt (ofNat a) (ofNat (Bu s)))=true:=Ao he;cases hb:GE s[a] with
   | true =>
    have e1:CD (q+1) (s.drop a) a acc=CD q (s.drop (a+1)) (a+1) acc:=by rw [Fz he,Tp hb]
    have e2:Jj (q+1) (s.drop a) acc=Jj q (s.drop (a+1)) acc:=by rw [Fz he,Jj,if_pos hb]
    rw [e1,e2,Ae (Ali M s a acc.length (El acc) j c0 c1 (by rw [MT he]; exact hb)),Ay,Aq (n:=s.length) he (by omega)];exact Aa2 M hMM s hs m2 q (a+1) acc Aa (by omega) (by omega) (by omega)
   | false =>
    have c2:Fc (Ek s a)=false:=by rw [MT he]; exact hb
    have hw0:0<(BD (s.drop a)).length:=by
     rw [Fz he];unfold BD;rw [List.takeWhile_cons_of_pos (by simp [hb])];exact Nat.succ_pos _
    have hwl:=Z4 (s.drop a);rw [List.length_drop] at hwl;have hi:∀ M',(M 2 (FN M') (KE s a acc.length (El acc) j)).sem=some (IV s a acc.length (El acc) (a+(BD (s.drop a)).length)):=λM'=>by
     rw [m2,Wa];exact Aa1 M' s hs a acc.length (El acc) (Bu s+1) a _ (by omega)
    have hsub:Jq a (Jn (a+(BD (s.drop a)).length) s)=BD (s.drop a):=by
     show (s.take (a+(BD (s.drop a)).length)).drop a=_;rw [List.drop_take,show a+(BD (s.drop a)).length-a=(BD (s.drop a)).length by omega];exact (List.prefix_iff_eq_take.1 (List.takeWhile_prefix _)).symm
    have c3:Al (ile 0 (ofNat a)) (Al (ile (ofNat a) (ofNat (a+(BD (s.drop a)).length))) (ile (ofNat (a+(BD (s.drop a)).length)) (ofNat (Bu s))))=true:=by
     rw [AF,ile_nat,ile_nat,decide_eq_true (by omega),decide_eq_true (by omega)];rfl
    have e0:CD (q+1) (s.drop a) a acc=if EW (BD (s.drop a))=0 then CD q ((s.drop a).drop (BD (s.drop a)).length) (a+(BD (s.drop a)).length) (acc++[EX (BD (s.drop a))]) else ([],30,a):=by
     rw [Fz he,CD,if_neg (by rw [hb]; decide)]
    have e5:Jj (q+1) (s.drop a) acc=if EW (BD (s.drop a))=0 then Jj q ((s.drop a).drop (BD (s.drop a)).length) (acc++[EX (BD (s.drop a))]) else (acc,EX (BD (s.drop a))):=by
     rw [Fz he,Jj,if_neg (by rw [hb]; decide)]
    by_cases hp:EW (BD (s.drop a))=0
    ·have c4:ieq (EW (Jq a (Jn (a+(BD (s.drop a)).length) s))) 0=true:=by rw [hsub,hp]; rfl
     have h9:(acc.length+1) * 40 <= 140737488355328:=by omega
     have h3:=Alf M _ s a acc.length (El acc) (a+(BD (s.drop a)).length) j c0 c1 c2 c3 c4 (decide_eq_true h9) (Au (hi _));have h4:Ah (Fb M) (FD s) (NE s a acc.length (El acc) j)=_:=CB (l:=FD s) (D2 (Γ:=⟨Ap tb41,M,Gl⟩) (AA hMM hMM) (Ar Tryz.f32 0) 0 (NE s a acc.length (El acc) j)) h3;rw [if_pos hp,List.drop_drop] at e0 e5;rw [e0,e5,Ae h4,Ay,hsub,Yv];have ih:=Aa2 M hMM s hs m2 q (a+(BD (s.drop a)).length) (acc++[EX (BD (s.drop a))]) Aa (by omega) (by omega) (by rw [List.length_append]; simp only [List.length_cons,List.length_nil]; omega);rw [show (acc++[EX (BD (s.drop a))]).length=acc.length+1 from List.length_append] at ih;exact ih
    ·have c4:ieq (EW (Jq a (Jn (a+(BD (s.drop a)).length) s))) 0=false:=by rw [hsub]; simp [ieq,hp]
     have h3:=Alg M _ s a acc.length (El acc) (a+(BD (s.drop a)).length) j c0 c1 c2 c3 c4 (Au (hi _));have h4:Ah (Fb M) (FD s) (NE s a acc.length (El acc) j)=_:=CB (l:=FD s) (D2 (Γ:=⟨Ap tb41,M,Gl⟩) (AA hMM hMM) (Ar Tryz.f32 0) 0 (NE s a acc.length (El acc) j)) h3;rw [if_neg hp] at e0 e5;rw [e0,e5];refine .inr ⟨rfl,rfl,?_⟩;rw [Ae h4];rfl
  ·rw [List.drop_eq_nil_of_le he]
   exact .inl ⟨rfl,Ae (Alh M s a acc.length (El acc) j (A1 he))⟩
theorem Acc (s:List UInt8):OL s=NE s 0 0 Aa (λi=>nth (OL s).t i):=by kernel_rfl
theorem p41:Ax Tryz.prog Gl 32 psT:=by
 refine Am A8 mixed Tryz.func32 (by kernel_rfl) (by kernel_rfl) λvs v h' h=>?_;unfold psT at h;split at h
 ·rename_i s
  have:=Ac h;simp only [Prod.mk.injEq] at this;obtain ⟨rfl,rfl⟩:=this;have hx:=AI tb41_ok [(0,FD s),(2,Dg s)];have hL:=AL [(0,FD s),(2,Dg s)];cases hb:AcP s with
  | true =>
   have e1:psN s=0:=by unfold psN psL; rw [hb]; rfl
   have e2:psE s=2:=by unfold psE; rw [hb]; rfl
   have e3:psI s=0:=by unfold psI; rw [hb]; rfl
   rw [e1,e2,e3];exact ⟨_,AC Gl tb41 [(0,FD s),(2,Dg s)],_,Bf.refl _,rfl,hx.1,hx.2,Akt _ s hb,Aw.one λj hj=>absurd hj (Nat.not_lt_zero _)⟩
  | false =>
   have hs:s.length <= 262144:=by
    unfold AcP at hb;rw [show (262144:Int)=ofNat 262144 from rfl,BV] at hb;have:=of_decide_eq_false hb;have hsl:Bu s=s.length:=rfl;omega
   have e0:psL s=(psR s).1:=by unfold psL; rw [hb]; rfl
   have e2:psE s=(psR s).2.1:=by unfold psE; rw [hb]; rfl
   have e3:psI s=ofNat (psR s).2.2:=by unfold psI; rw [hb]; rfl
   have hg:ilt 262144 (ofNat (Bu s))=false:=hb;have key:∀ M,LLe M M->(∀ f st,M 2 f st=A3 f (Dg s) (Bu s+1) st)->((psR s).2.1=0∧(A3 (Fb M) (FD s) (Bu s+1) (OL s)).sem=some (Qz s 0 (psR s).1.length (El (psR s).1))) ∨
     ((psR s).2.1=30∧(psR s).1=[]∧(A3 (Fb M) (FD s) (Bu s+1) (OL s)).sem=some (Uf s (psR s).2.2 (Jj (s.length+1) s []).1.length (El (Jj (s.length+1) s []).1))):=λM h1 h2=>by
    rw [Acc];exact Aa2 M h1 s hs h2 (s.length+1) 0 [] (λi=>nth (OL s).t i) (by omega) (by omega) (Nat.le_refl _)
   have mm:∀ r,LLe (onP 0 (isP (AW [(0,FD s),(2,Dg s)]) 0 r) r (AW [(0,FD s),(2,Dg s)])) (onP 0 (isP (AW [(0,FD s),(2,Dg s)]) 0 r) r (AW [(0,FD s),(2,Dg s)])):=λr=>Ajk hL 0 r;rw [e2,e3];unfold psN psG;rw [e0];by_cases hok:(psR s).2.1=0
   ·have hat:(psR s).2.2=0:=NW _ _ _ _ hok
    have hw:=AH (AA hL hL) _ (Aks (AW [(0,FD s),(2,Dg s)]) _ s 0 (psR s).1.length (El (psR s).1) hg (Au (by
     rcases key _ (mm (Qz s 0 (psR s).1.length (El (psR s).1))) (λ_ _=>rfl) with ⟨_,h2⟩ | ⟨h1,_⟩
     ·exact h2
     ·rw [hok] at h1; cases h1)))
    rw [hok,hat];exact ⟨_,AC Gl tb41 [(0,FD s),(2,Dg s)],_,Bf.refl _,rfl,hx.1,hx.2,hw,Aw.one λj hj=>(F9 (λi=>eV (LR (psR s).1 i)) (psR s).1.length j hj).symm⟩
   ·have hno:(psR s).2.1=30∧(psR s).1=[]:=by
     rcases key _ (mm (Qz s 0 0 (El []))) (λ_ _=>rfl) with ⟨h1,_⟩ | ⟨h1,h2,_⟩
     ·exact absurd h1 hok
     ·exact ⟨h1,h2⟩
    have hw:=AH (AA hL hL) _ (Aku (AW [(0,FD s),(2,Dg s)]) _ s (psR s).2.2 (Jj (s.length+1) s []).1.length (El (Jj (s.length+1) s []).1) hg (Au (by
     rcases key _ (mm (Uf s (psR s).2.2 (Jj (s.length+1) s []).1.length (El (Jj (s.length+1) s []).1))) (λ_ _=>rfl) with ⟨h1,_⟩ | ⟨_,_,h3⟩
     ·exact absurd h1 hok
     ·exact h3)))
    rw [hno.1,hno.2];exact ⟨_,AC Gl tb41 [(0,FD s),(2,Dg s)],_,Bf.refl _,rfl,hx.1,hx.2,hw,Aw.one λj hj=>absurd hj (Nat.not_lt_zero _)⟩
 ·cases h
end Go.Proofs.YtkgdhhieomndeaaGreatDoor.Ed
