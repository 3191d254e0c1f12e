/-
  Layer 7: whether shapes are the same, the program's (by slices.Equal). No conditions.
-/
import Derived.Test.YtkgdhhieomndeaaGreatDoorShI
import Derived.Test.YtkgdhhieomndeaaGreatDoorEdX
namespace Go.Proofs.YtkgdhhieomndeaaGreatDoor.Sh
open Go.Sy Ed
open Int (ofNat)
set_option maxHeartbeats 1000000
set_option maxRecDepth 4000
theorem AeQ {n:Nat} {f:Nat->E6} {m:Nat} {g:Nat->E6} (h:ieq (ofNat n) (ofNat m)=false):CB n f m g=false:=by
 unfold CB;rw [h];rfl
theorem AcV {a b:E6}:eqE a b=true↔a=b:=by
 have h:=@I7 1 (λ_=>a) 1 (λ_=>b);have e:CB 1 (λ_=>a) 1 (λ_=>b)=eqE a b:=by
  show sel (eqE a b) true false=_;cases eqE a b <;> rfl
 rw [e] at h;exact ⟨λhh=>(h.1 hh).2 0 (by omega),λhh=>h.2 ⟨rfl,λ_ _=>hh⟩⟩
theorem AeP {n:Nat} {f:Nat->E6} {m:Nat} {g:Nat->E6} (h:ieq (ofNat n) (ofNat m)=true):CB n f m g=A4 n λk=>eqE (f k) (g k):=by
 rw [Bool.eq_iff_iff,I7,A0];exact ⟨λhh k hk=>AcV.2 (hh.2 k hk),λhh=>⟨Cf h,λk hk=>AcV.1 (hh k hk)⟩⟩
def Qq (n:Nat) (f:Nat->Ev5) (m:Nat) (g:Nat->Ev5):Bool:=Ao (ieq (ofNat n) (ofNat m)) (A4 n λk=>FM (f k) (g k))
def Wb:List V->AE
 | [v,u]=>apG Aah v λn f=>apG Aah u λm g=>.br (Af n) (.leaf (bV (CB n f m g),[])) .fail
 | _=>.fail
def Wa:List V->AE
 | [v,u]=>apG Aaf v λn f=>apG Aaf u λm g=>.br (Af n) (.leaf (bV (Qq n f m g),[])) .fail
 | _=>.fail
def R7:List V->AE
 | [v,u,.fn 91 []]=>apG Aag v λn C=>apG Aag u λm D=>.br (Af n) (.br (A4 n λi=>Af (C i).1) (.leaf (bV (El n (λi=>(C i).1) (λi=>(C i).2) m (λi=>(D i).1) (λi=>(D i).2)),[])) .fail) .fail
 | _=>.fail
def Anc:Lp:=⟨bmK 26 0 [0,1,4,12,13],0,bmK 26 0 [4],0,4611686018427387905⟩
def S89 (n:Nat) (f:Nat->E6) (m:Nat) (g:Nat->E6) (c:Int) (_:Unit) (j:Nat->V):St:=⟨jsV 26 0 j [(0,.sl 6 n (λi=>eV (f i))),(1,.sl 6 m (λi=>eV (g i))),(4,bV false),(12,nV n),(13,iV c)],[]⟩
noncomputable def B89 (L:LT):St->T (Ex×St):=λst=>AD tab ⟨Am tb0,L,Gl⟩ (Au Tryz.f89 0) 0 st
def AkR (_:Nat) (_:Nat->E6) (_:Nat) (_:Nat->E6) (_:Nat) (_:Unit):Ex×St:=(.rt,⟨jsV 26 0 Aa [(4,bV false)],[]⟩)
def g89 (n:Nat) (f:Nat->E6) (m:Nat) (g:Nat->E6) (i:Nat) (a:Unit):T ((Unit) ⊕ (Ex×St)):=.br (eqE (f i) (g i)) (.leaf (.inl ())) (.leaf (.inr (AkR n f m g i a)))
def AnD (_:Nat) (_:Nat->E6) (_:Nat) (_:Nat->E6) (_:Unit):Ex×St:=(.ex 0,⟨jsV 26 0 Aa [(4,bV false)],[]⟩)
theorem r89 (L:LT) (n:Nat) (f:Nat->E6) (m:Nat) (g:Nat->E6) (hm:n=m) (hn:n <= 4611686018427387904) {e:Ex×St} {a:Unit} {j:Nat->V} (h:BR (g89 n f m g) (AnD n f m g) n 0 a=some e):(A3 (B89 L) Anc 4611686018427387905 (S89 n f m g 0 a j)).sem=some (exR e) :=
 Bq BZ hn (λi a j r hi h=>DK.ok (L:=goR (S89 n f m g) exR i) (.k (ofNat_lt hi) <| .k (Ag hi) <| .k (Ag (hm ▸ hi)) <| .c (λh1=>.k (eN h1) <| .l) λh1=>.k (eN h1) <| .l) (by kernel_rfl) h) (λa j=>DK.ok (C:=.leaf (AnD n f m g a)) (L:=exR) (.k (Aw (Nat.le_refl n)) .l) (by kernel_rfl) rfl) (Nat.zero_add _).symm (Nat.lt_succ_of_le hn) h
def Afv:List (Nat×Lp×List (Nat×(Nat->V))):=[(0,Anc,[])]
def C89 (n:Nat) (f:Nat->E6) (m:Nat) (g:Nat->E6):AE:=.br (ieq (ofNat n) (ofNat m)) (.br (A4 n λk=>eqE (f k) (g k)) (.leaf ((bV true),[])) (.leaf ((bV false),[]))) (.leaf ((bV false),[]))
theorem Ag5 (n:Nat) (f:Nat->E6) (m:Nat) (g:Nat->E6):(C89 n f m g).sem=some (bV (CB n f m g),[]):=by
 unfold C89;cases h:ieq (ofNat n) (ofNat m)
 ·rw [AeQ h]; rfl
 rw [AeP h];cases A4 n λk=>eqE (f k) (g k) <;> rfl
theorem p103:Ax Tryz.prog Gl 89 Wb:=by
 refine Aj A7 mixed Tryz.func89 (by kernel_rfl) (by kernel_rfl) λvs v h' h=>?_;unfold Wb at h;split at h
 ·rename_i v1 u1
  obtain ⟨n,f,a1,h⟩:=Bz h;obtain ⟨m,g,a2,h⟩:=Bz h;obtain ⟨hn,h⟩:=Ad h;have:=Ab h;simp only [Prod.mk.injEq] at this;obtain ⟨rfl,rfl⟩:=this;have w:DK (λa=>a) (C89 n f m g) _:=.c (λh1=>.k (eN h1) <| .c (λh2=>.a (r89 (askL Afv) n f m g (Cf h1) (CU hn) (j:=λ_=>.und) (P9 (λ_ _=>rfl) h2)) <| .l) λh2=>.a (r89 (askL Afv) n f m g (Cf h1) (CU hn) (j:=λ_=>.und) (PC (λ_ _=>rfl) h2)) <| .l) λh1=>.k (eN h1) <| .l
  have hx:=D2 CS Afv (G:=Gl);exact ⟨_,cxA Gl tb0 Afv,_,(show Bj [v1,u1] [O9 Aah n f,O9 Aah m g] from λS w cs hv=>by
   obtain ⟨c,l,rfl,q1,c',l',rfl,q2,q3⟩:=hv;exact ⟨c,_,rfl,a1 S w c q1,c',l',rfl,a2 S w c' q2,q3⟩),rfl,hx.1,hx.2,DK.of (Ag5 n f m g) w (by kernel_rfl),Av.refl _⟩
 ·cases h
def Anb:Lp:=⟨bmK 26 0 [0,1,4,12,13],0,bmK 26 0 [4],0,4611686018427387905⟩
def S90 (n:Nat) (f:Nat->Ev5) (m:Nat) (g:Nat->Ev5) (c:Int) (_:Unit) (j:Nat->V):St:=⟨jsV 26 0 j [(0,.sl 5 n (λi=>evV (f i))),(1,.sl 5 m (λi=>evV (g i))),(4,bV false),(12,nV n),(13,iV c)],[]⟩
noncomputable def B90 (L:LT):St->T (Ex×St):=λst=>AD tab ⟨Am tb0,L,Gl⟩ (Au Tryz.f90 0) 0 st
def AkQ (_:Nat) (_:Nat->Ev5) (_:Nat) (_:Nat->Ev5) (_:Nat) (_:Unit):Ex×St:=(.rt,⟨jsV 26 0 Aa [(4,bV false)],[]⟩)
def g90 (n:Nat) (f:Nat->Ev5) (m:Nat) (g:Nat->Ev5) (i:Nat) (a:Unit):T ((Unit) ⊕ (Ex×St)):=.br (Ao (ieq (f i).th (g i).th) (Ao (ieq (f i).pl (g i).pl) (Ao (ieq (f i).dir (g i).dir) (Ao (ieq (f i).loc (g i).loc) (Ao (ieq (f i).val (g i).val) true))))) (.leaf (.inl ())) (.leaf (.inr (AkQ n f m g i a)))
def AnC (_:Nat) (_:Nat->Ev5) (_:Nat) (_:Nat->Ev5) (_:Unit):Ex×St:=(.ex 0,⟨jsV 26 0 Aa [(4,bV false)],[]⟩)
theorem r90 (L:LT) (n:Nat) (f:Nat->Ev5) (m:Nat) (g:Nat->Ev5) (hm:n=m) (hn:n <= 4611686018427387904) {e:Ex×St} {a:Unit} {j:Nat->V} (h:BR (g90 n f m g) (AnC n f m g) n 0 a=some e):(A3 (B90 L) Anb 4611686018427387905 (S90 n f m g 0 a j)).sem=some (exR e) :=
 Bq BZ hn (λi a j r hi h=>DK.ok (L:=goR (S90 n f m g) exR i) (.k (ofNat_lt hi) <| .k (Ag hi) <| .k (Ag (hm ▸ hi)) <| .c (λh1=>.k (eN h1) <| .l) λh1=>.k (eN h1) <| .l) (by kernel_rfl) h) (λa j=>DK.ok (C:=.leaf (AnC n f m g a)) (L:=exR) (.k (Aw (Nat.le_refl n)) .l) (by kernel_rfl) rfl) (Nat.zero_add _).symm (Nat.lt_succ_of_le hn) h
def Afu:List (Nat×Lp×List (Nat×(Nat->V))):=[(0,Anb,[])]
def C90 (n:Nat) (f:Nat->Ev5) (m:Nat) (g:Nat->Ev5):AE:=.br (ieq (ofNat n) (ofNat m)) (.br (A4 n λk=>FM (f k) (g k)) (.leaf ((bV true),[])) (.leaf ((bV false),[]))) (.leaf ((bV false),[]))
theorem Ag4 (n:Nat) (f:Nat->Ev5) (m:Nat) (g:Nat->Ev5):(C90 n f m g).sem=some (bV (Qq n f m g),[]):=by
 unfold C90;unfold Qq;cases ieq (ofNat n) (ofNat m)
 ·rfl
 cases A4 n λk=>FM (f k) (g k) <;> rfl
theorem p104:Ax Tryz.prog Gl 90 Wa:=by
 refine Aj A7 mixed Tryz.func90 (by kernel_rfl) (by kernel_rfl) λvs v h' h=>?_;unfold Wa at h;split at h
 ·rename_i v1 u1
  obtain ⟨n,f,a1,h⟩:=Bz h;obtain ⟨m,g,a2,h⟩:=Bz h;obtain ⟨hn,h⟩:=Ad h;have:=Ab h;simp only [Prod.mk.injEq] at this;obtain ⟨rfl,rfl⟩:=this;have w:DK (λa=>a) (C90 n f m g) _:=.c (λh1=>.k (eN h1) <| .c (λh2=>.a (r90 (askL Afu) n f m g (Cf h1) (CU hn) (j:=λ_=>.und) (P9 (λ_ _=>rfl) h2)) <| .l) λh2=>.a (r90 (askL Afu) n f m g (Cf h1) (CU hn) (j:=λ_=>.und) (PC (λ_ _=>rfl) h2)) <| .l) λh1=>.k (eN h1) <| .l
  have hx:=D2 CS Afu (G:=Gl);exact ⟨_,cxA Gl tb0 Afu,_,(show Bj [v1,u1] [O9 Aaf n f,O9 Aaf m g] from λS w cs hv=>by
   obtain ⟨c,l,rfl,q1,c',l',rfl,q2,q3⟩:=hv;exact ⟨c,_,rfl,a1 S w c q1,c',l',rfl,a2 S w c' q2,q3⟩),rfl,hx.1,hx.2,DK.of (Ag4 n f m g) w (by kernel_rfl),Av.refl _⟩
 ·cases h
def Ana:Lp:=⟨bmK 26 0 [0,1,4,12,13],0,bmK 26 0 [4],0,4611686018427387905⟩
def S91 (n:Nat) (f:Nat->Int) (m:Nat) (g:Nat->Int) (c:Int) (_:Unit) (j:Nat->V):St:=⟨jsV 26 0 j [(0,.sl 1 n (λi=>iV (f i))),(1,.sl 1 m (λi=>iV (g i))),(4,bV false),(12,nV n),(13,iV c)],[]⟩
noncomputable def B91 (L:LT):St->T (Ex×St):=λst=>AD tab ⟨Am tb0,L,Gl⟩ (Au Tryz.f91 0) 0 st
def AkP (_:Nat) (_:Nat->Int) (_:Nat) (_:Nat->Int) (_:Nat) (_:Unit):Ex×St:=(.rt,⟨jsV 26 0 Aa [(4,bV false)],[]⟩)
def g91 (n:Nat) (f:Nat->Int) (m:Nat) (g:Nat->Int) (i:Nat) (a:Unit):T ((Unit) ⊕ (Ex×St)):=.br (ieq (f i) (g i)) (.leaf (.inl ())) (.leaf (.inr (AkP n f m g i a)))
def AnB (_:Nat) (_:Nat->Int) (_:Nat) (_:Nat->Int) (_:Unit):Ex×St:=(.ex 0,⟨jsV 26 0 Aa [(4,bV false)],[]⟩)
theorem r91 (L:LT) (n:Nat) (f:Nat->Int) (m:Nat) (g:Nat->Int) (hm:n=m) (hn:n <= 4611686018427387904) {e:Ex×St} {a:Unit} {j:Nat->V} (h:BR (g91 n f m g) (AnB n f m g) n 0 a=some e):(A3 (B91 L) Ana 4611686018427387905 (S91 n f m g 0 a j)).sem=some (exR e) :=
 Bq BZ hn (λi a j r hi h=>DK.ok (L:=goR (S91 n f m g) exR i) (.k (ofNat_lt hi) <| .k (Ag hi) <| .k (Ag (hm ▸ hi)) <| .c (λh1=>.k (eN h1) <| .l) λh1=>.k (eN h1) <| .l) (by kernel_rfl) h) (λa j=>DK.ok (C:=.leaf (AnB n f m g a)) (L:=exR) (.k (Aw (Nat.le_refl n)) .l) (by kernel_rfl) rfl) (Nat.zero_add _).symm (Nat.lt_succ_of_le hn) h
def Aft:List (Nat×Lp×List (Nat×(Nat->V))):=[(0,Ana,[])]
def C91 (n:Nat) (f:Nat->Int) (m:Nat) (g:Nat->Int):AE:=.br (ieq (ofNat n) (ofNat m)) (.br (A4 n λk=>ieq (f k) (g k)) (.leaf ((bV true),[])) (.leaf ((bV false),[]))) (.leaf ((bV false),[]))
theorem Ag3 (n:Nat) (f:Nat->Int) (m:Nat) (g:Nat->Int):(C91 n f m g).sem=some (bV (Da n f m g),[]):=by
 unfold C91;unfold Da;cases ieq (ofNat n) (ofNat m)
 ·rfl
 cases A4 n λk=>ieq (f k) (g k) <;> rfl
theorem AmQ:Ax Tryz.prog Gl 91 I6:=by
 refine Aj A7 mixed Tryz.func91 (by kernel_rfl) (by kernel_rfl) λvs v h' h=>?_;unfold I6 at h;split at h
 ·rename_i v1 u1
  obtain ⟨n,f,a1,h⟩:=Bz h;obtain ⟨m,g,a2,h⟩:=Bz h;obtain ⟨hn,h⟩:=Ad h;have:=Ab h;simp only [Prod.mk.injEq] at this;obtain ⟨rfl,rfl⟩:=this;have w:DK (λa=>a) (C91 n f m g) _:=.c (λh1=>.k (eN h1) <| .c (λh2=>.a (r91 (askL Aft) n f m g (Cf h1) (CU hn) (j:=λ_=>.und) (P9 (λ_ _=>rfl) h2)) <| .l) λh2=>.a (r91 (askL Aft) n f m g (Cf h1) (CU hn) (j:=λ_=>.und) (PC (λ_ _=>rfl) h2)) <| .l) λh1=>.k (eN h1) <| .l
  have hx:=D2 CS Aft (G:=Gl);exact ⟨_,cxA Gl tb0 Aft,_,(show Bj [v1,u1] [O9 SR n f,O9 SR m g] from λS w cs hv=>by
   obtain ⟨c,l,rfl,q1,c',l',rfl,q2,q3⟩:=hv;exact ⟨c,_,rfl,a1 S w c q1,c',l',rfl,a2 S w c' q2,q3⟩),rfl,hx.1,hx.2,DK.of (Ag3 n f m g) w (by kernel_rfl),Av.refl _⟩
 ·cases h
noncomputable def tb106:AK:=(91,I6)::[]
theorem tb106_ok:Aq Tryz.prog Gl tb106:=.cons AmQ .nil
def Ahp:Lp:=⟨bmK 32 0 [0,1,2,6,15,16,17],0,bmK 32 0 [6],0,4611686018427387905⟩
def Aom (n:Nat) (C:Nat->Nat×(Nat->Int)) (m:Nat) (D:Nat->Nat×(Nat->Int)) (c:Int) (_:Unit) (j:Nat->V):St:=⟨jsV 32 0 j [(0,.sl 1 n (λu=>.sl 1 (C u).1 (λi=>iV ((C u).2 i)))),(1,.sl 1 m (λu=>.sl 1 (D u).1 (λi=>iV ((D u).2 i)))),(2,.fn 91 []),(6,bV false),(15,.sl 1 n (λu=>.sl 1 (C u).1 (λi=>iV ((C u).2 i)))),(16,nV n),(17,iV c)],[]⟩
noncomputable def Aqr (L:LT):St->T (Ex×St):=λst=>AD tab ⟨Am tb106,L,Gl⟩ (Au Tryz.f92 0) 0 st
def AhV (_:Nat) (_:Nat->Nat×(Nat->Int)) (_:Nat) (_:Nat->Nat×(Nat->Int)) (_:Nat) (_:Unit):Ex×St:=(.rt,⟨jsV 32 0 Aa [(6,bV false)],[]⟩)
def ApO (n:Nat) (C:Nat->Nat×(Nat->Int)) (m:Nat) (D:Nat->Nat×(Nat->Int)) (i:Nat) (a:Unit):T ((Unit) ⊕ (Ex×St)):=.br (Da (C i).1 (C i).2 (D i).1 (D i).2) (.leaf (.inl ())) (.leaf (.inr (AhV n C m D i a)))
def AhC (_:Nat) (_:Nat->Nat×(Nat->Int)) (_:Nat) (_:Nat->Nat×(Nat->Int)) (_:Unit):Ex×St:=(.ex 0,⟨jsV 32 0 Aa [(6,bV false)],[]⟩)
theorem AmK (L:LT) (n:Nat) (C:Nat->Nat×(Nat->Int)) (m:Nat) (D:Nat->Nat×(Nat->Int)) (hm:n=m) (hs:(A4 n λk=>Af (C k).1)=true) (hn:n <= 4611686018427387904) {e:Ex×St} {a:Unit} {j:Nat->V} (h:BR (ApO n C m D) (AhC n C m D) n 0 a=some e):(A3 (Aqr L) Ahp 4611686018427387905 (Aom n C m D 0 a j)).sem=some (exR e) :=
 Bq BZ hn (λi a j r hi h=>DK.ok (L:=goR (Aom n C m D) exR i) (.k (ofNat_lt hi) <| .k (Ag hi) <| .k (Ag (hm ▸ hi)) <| .k (eL (C i).1) <| .k (eL (D i).1) <| .k (A0.1 hs i hi) <| .c (λh1=>.k (eN h1) <| .l) λh1=>.k (eN h1) <| .l) (by kernel_rfl) h) (λa j=>DK.ok (C:=.leaf (AhC n C m D a)) (L:=exR) (.k (Aw (Nat.le_refl n)) .l) (by kernel_rfl) rfl) (Nat.zero_add _).symm (Nat.lt_succ_of_le hn) h
def Yc:List (Nat×Lp×List (Nat×(Nat->V))):=[(0,Ahp,[])]
def AkL (n:Nat) (C:Nat->Nat×(Nat->Int)) (m:Nat) (D:Nat->Nat×(Nat->Int)):AE:=.br (ieq (ofNat n) (ofNat m)) (.br (A4 n λk=>Da (C k).1 (C k).2 (D k).1 (D k).2) (.leaf ((bV true),[])) (.leaf ((bV false),[]))) (.leaf ((bV false),[]))
theorem Aea (n:Nat) (C:Nat->Nat×(Nat->Int)) (m:Nat) (D:Nat->Nat×(Nat->Int)):(AkL n C m D).sem=some (bV (El n (λi=>(C i).1) (λi=>(C i).2) m (λi=>(D i).1) (λi=>(D i).2)),[]):=by
 unfold AkL El;cases ieq (ofNat n) (ofNat m)
 ·rfl
 cases A4 n λk=>Da (C k).1 (C k).2 (D k).1 (D k).2 <;> rfl
theorem ApD:Ax Tryz.prog Gl 92 R7:=by
 refine Aj A7 mixed Tryz.func92 (by kernel_rfl) (by kernel_rfl) λvs v h' h=>?_;unfold R7 at h;split at h
 ·rename_i v1 u1
  obtain ⟨n,C,a1,h⟩:=Bz h;obtain ⟨m,D,a2,h⟩:=Bz h;obtain ⟨hn,h⟩:=Ad h;obtain ⟨hs,h⟩:=Ad h;have:=Ab h;simp only [Prod.mk.injEq] at this;obtain ⟨rfl,rfl⟩:=this;have w:DK (λa=>a) (AkL n C m D) _:=.c (λh1=>.k (eN h1) <| .c (λh2=>.a (AmK (askL Yc) n C m D (Cf h1) hs (CU hn) (j:=λ_=>.und) (P9 (λ_ _=>rfl) h2)) <| .l) λh2=>.a (AmK (askL Yc) n C m D (Cf h1) hs (CU hn) (j:=λ_=>.und) (PC (λ_ _=>rfl) h2)) <| .l) λh1=>.k (eN h1) <| .l
  have hx:=D2 tb106_ok Yc (G:=Gl);exact ⟨_,cxA Gl tb106 Yc,_,(show Bj [v1,u1,.fn 91 []] [.sl 1 n (λu=>.sl 1 (C u).1 (λi=>iV ((C u).2 i))),.sl 1 m (λu=>.sl 1 (D u).1 (λi=>iV ((D u).2 i))),.fn 91 []] from λS w cs hv=>by
   obtain ⟨c,l,rfl,q1,c',l',rfl,q2,q3⟩:=hv;exact ⟨c,_,rfl,a1 S w c q1,c',l',rfl,a2 S w c' q2,q3⟩),rfl,hx.1,hx.2,DK.of (Aea n C m D) w (by kernel_rfl),Av.refl _⟩
 ·cases h
noncomputable def Al6:AK:=(89,Wb)::(90,Wa)::(91,I6)::(92,R7)::[]
theorem Aeq:Aq Tryz.prog Gl Al6:=.cons p103 <| .cons p104 <| .cons AmQ <| .cons ApD .nil
theorem AeO (a b c d e i j k:Bool):Ao a (Ao b (Ao c (Ao d (Ao e (Ao i (Ao j k))))))=Ao a (Ao b (Ao c (Ao d (Ao (Ao e k) (Ao i (Ao j true)))))):=by
 cases a <;> cases b <;> cases c <;> cases d <;> cases e <;> cases i <;> cases j <;> cases k <;> rfl
def C58 (s s':Sh7):AE:=.br (ieq s.arch s'.arch) (.br (ieq s.tt s'.tt) (.br (ieq s.kk s'.kk) (.br (CB s.ne (λi=>s.E i) s'.ne (λi=>s'.E i)) (.br (Qq s.nx (λi=>s.X i) s'.nx (λi=>s'.X i)) (.br (Da s.nr s.R s'.nr s'.R) (.leaf ((bV (El s.nc (λi=>(s.C i).1) (λi i_1=>(s.C i).2 i_1) s'.nc (λi=>(s'.C i).1) (λi i_1=>(s'.C i).2 i_1))),[])) (.leaf ((bV false),[]))) (.leaf ((bV false),[]))) (.leaf ((bV false),[]))) (.leaf ((bV false),[]))) (.leaf ((bV false),[]))) (.leaf ((bV false),[]))
theorem Ag8 (s s':Sh7):(C58 s s').sem=some (bV (Fv s s'),[]):=by
 unfold C58 Fv;rw [AeO];show _=some (bV (Ao _ (Ao _ (Ao _ (Ao _ (Ao (Qq s.nx s.X s'.nx s'.X) _))))),[]);cases ieq s.arch s'.arch
 ·rfl
 cases ieq s.tt s'.tt
 ·rfl
 cases ieq s.kk s'.kk
 ·rfl
 cases CB s.ne s.E s'.ne s'.E
 ·rfl
 cases Qq s.nx s.X s'.nx s'.X
 ·rfl
 cases Da s.nr s.R s'.nr s'.R
 ·rfl
 cases El s.nc (λi=>(s.C i).1) (λi=>(s.C i).2) s'.nc (λi=>(s'.C i).1) (λi=>(s'.C i).2) <;> rfl
theorem p72:Ax Tryz.prog Gl 58 I5:=by
 refine Aj A7 mixed Tryz.func58 (by kernel_rfl) (by kernel_rfl) λvs v h' h=>?_;unfold I5 at h;split at h
 ·rename_i v1 u1
  obtain ⟨s,a1,h⟩:=apS_some h;obtain ⟨s',a2,h⟩:=apS_some h;obtain ⟨hn,h⟩:=Ad h;have:=Ab h;simp only [Prod.mk.injEq] at this;obtain ⟨rfl,rfl⟩:=this;have hn:Af s.ne=true∧Af s.nx=true∧Af s.nr=true∧Af s.nc=true∧(A4 s.nc λi=>Af (s.C i).1)=true:=by simpa [BG,Ao] using hn
  obtain ⟨n1,n2,n3,n4,n5⟩:=hn;have w:DK (λa=>a) (C58 s s') _:=.c (λh1=>.r 6 h1 <| .c (λh2=>.r 6 h2 <| .c (λh3=>.r 5 h3 <| .k (eL s.ne) <| .k (eL s'.ne) <| .k n1 <| .k h3 <| .c (λh4=>.r 5 h4 <| .k (eL s.nx) <| .k (eL s'.nx) <| .k n2 <| .k h4 <| .c (λh5=>.r 5 h5 <| .k (eL s.nr) <| .k (eL s'.nr) <| .k n3 <| .k h5 <| .c (λh6=>.r 5 h6 <| .k (eL2 s.nc s.C) <| .k (eL2 s'.nc s'.C) <| .k n4 <| .k n5 <| .k h6 <| .l) λh6=>.r 6 h6 <| .l) λh5=>.r 6 h5 <| .r 6 eF <| .l) λh4=>.r 6 h4 <| .r 12 eF <| .l) λh3=>.r 6 h3 <| .r 18 eF <| .l) λh2=>.r 6 h2 <| .r 24 eF <| .l) λh1=>.r 6 h1 <| .r 30 eF <| .l
  have hx:=D2 Aeq [] (G:=Gl);exact ⟨_,cxA Gl Al6 [],_,(show Bj [v1,u1] [VS s,VS s'] from λS w cs hv=>by
   obtain ⟨c,l,rfl,q1,c',l',rfl,q2,q3⟩:=hv;exact ⟨c,_,rfl,a1 S w c q1,c',l',rfl,a2 S w c' q2,q3⟩),rfl,hx.1,hx.2,DK.of (Ag8 s s') w (by kernel_rfl),Av.refl _⟩
 ·cases h
end Go.Proofs.YtkgdhhieomndeaaGreatDoor.Sh
namespace Go.Proofs.YtkgdhhieomndeaaGreatDoor.Sh
open Go.Sy Ed
open Int (ofNat)
set_option maxHeartbeats 1000000
set_option maxRecDepth 4000
def ofS (a:Int) (n:Nat) (f:Nat->E6):Sh7:=⟨a,n,shG n f,n,evF n (shG n f) (λ_=>true),ofNat (ttN n (shG n f)),ofNat (kkN n (shG n f)),n,rfF n (shG n f) (λ_=>true),kkN n (shG n f),
 λk=>(lnN (mbF (shG n f)) (wrF (shG n f)) n k,λi=>ofNat (coN (mbF (shG n f)) (wrF (shG n f)) n k i))⟩
def Cj (s:Sh7):Bool:=Ao (ieq (BK s.arch s.ne s.E) 0) (Fv s (ofS s.arch s.ne s.E))
def SV:List V->AE
 | [v]=>apS v λs=>.br (BC s.ne) (.br (BG s) (.leaf (iV (sel (Cj s) 0 70),[])) .fail) .fail
 | _=>.fail
theorem AdA {a:Int} {n:Nat} {f:Nat->E6} (h:ilt 16 (ofNat n)=true):ieq (BK a n f) 0=false:=by
 cases hc:ieq (BK a n f) 0 with
 | false=>rfl
 | true =>have:=(Bl hc).hi;rw [show (16:Int)=ofNat 16 from rfl,BP] at h;have:=of_decide_eq_true h;omega
noncomputable def Ae6:AK:=(57,ofT)::(58,I5)::[]
theorem Ae5:Aq Tryz.prog Gl Ae6:=.cons p14 <| .cons p72 .nil
noncomputable def Ae2:AK:=(33,ofT)::(9,I5)::[]
theorem Ae1:Aq Tryz.prog Gl Ae2:=.cons p15 <| .cons p16 .nil
section
variable (L:LT) (a:Int) (n:Nat) (g:Nat->E6) (m:Nat) (x:Nat->Ev5) (t k:Int) (p:Nat) (r:Nat->Int) (q:Nat) (ln:Nat->Nat) (co:Nat->Nat->Int)
include L a n g m x t k p r q ln co
theorem AoR (h17:BC n=true) (h0:ieq (BK a n g) 0=true) (h18:BJ [.cells (shL a n g m x t k p r q ln co),.row 92 6 n (λi=>eV (shG n g i)),.row 80 5 n (λi=>evV (evF n (shG n g) (λ_=>true) i)),.row 3 1 n (λi=>iV (rfF n (shG n g) (λ_=>true) i)),.jag (Jag.mk 24 1 (kkN n (shG n g)) Aa 0 3 1 (λ_=>true) (lnN (mbF (shG n g)) (wrF (shG n g)) n) (λk i=>iV (ofNat (coN (mbF (shG n g)) (wrF (shG n g)) n k i)))),.cells [iV a,.ref 1,.ref 2,iV (ofNat (ttN n (shG n g))),iV (ofNat (kkN n (shG n g))),.ref 3,.jref 4]]=true) (h19:A4 q (λi=>A4 (ln i) (λ_=>true))=true) (h20:A4 (kkN n (shG n g)) (λi=>A4 (lnN (mbF (shG n g)) (wrF (shG n g)) n i) (λ_=>true))=true) (h21:Af n=true) (h22:Af m=true) (h23:Af p=true) (h24:Af q=true) (h25:A4 q (λi=>Af (ln i))=true) (h1:Ao (ieq a a) (Ao (ieq t (ofNat (ttN n (shG n g)))) (Ao (ieq k (ofNat (kkN n (shG n g)))) (Ao (CB n g n (λi=>shG n g i)) (Ao (ieq (ofNat m) (ofNat n)) (Ao (Da p r n (rfF n (shG n g) (λ_=>true))) (Ao (El q ln (λi i_1=>co i i_1) (kkN n (shG n g)) (lnN (mbF (shG n g)) (wrF (shG n g)) n) (λi i_1=>ofNat (coN (mbF (shG n g)) (wrF (shG n g)) n i i_1))) (A4 m (λk=>FM (x k) (evF n (shG n g) (λ_=>true) k)))))))))=false):(Ay (Ai tab ⟨Am Ae6,L,Gl⟩ Tryz.f35 [.agg (shL a n g m x t k p r q ln co)] [])).sem=some ((iV 70),[]):=by
 exact Ac (ks:=[kL n,kn h17,kn h0,kN (kI 0),kN (kI 0),kN (kI 0),kn h18,kL n,kL m,kL p,kn h19,kL n,kL n,kL n,kn h20,kA (kn h21) (kA (kn h22) (kA (kn h23) (kA (kn h24) (kn h25)))),kN (kI 0),kN (kI 0),kN (kn h1)]) (by kernel_rfl)
theorem AoQ (h17:BC n=true) (h0:ieq (BK a n g) 0=true) (h18:BJ [.cells (shL a n g m x t k p r q ln co),.row 92 6 n (λi=>eV (shG n g i)),.row 80 5 n (λi=>evV (evF n (shG n g) (λ_=>true) i)),.row 3 1 n (λi=>iV (rfF n (shG n g) (λ_=>true) i)),.jag (Jag.mk 24 1 (kkN n (shG n g)) Aa 0 3 1 (λ_=>true) (lnN (mbF (shG n g)) (wrF (shG n g)) n) (λk i=>iV (ofNat (coN (mbF (shG n g)) (wrF (shG n g)) n k i)))),.cells [iV a,.ref 1,.ref 2,iV (ofNat (ttN n (shG n g))),iV (ofNat (kkN n (shG n g))),.ref 3,.jref 4]]=true) (h19:A4 q (λi=>A4 (ln i) (λ_=>true))=true) (h20:A4 (kkN n (shG n g)) (λi=>A4 (lnN (mbF (shG n g)) (wrF (shG n g)) n i) (λ_=>true))=true) (h21:Af n=true) (h22:Af m=true) (h23:Af p=true) (h24:Af q=true) (h25:A4 q (λi=>Af (ln i))=true) (h1:Ao (ieq a a) (Ao (ieq t (ofNat (ttN n (shG n g)))) (Ao (ieq k (ofNat (kkN n (shG n g)))) (Ao (CB n g n (λi=>shG n g i)) (Ao (ieq (ofNat m) (ofNat n)) (Ao (Da p r n (rfF n (shG n g) (λ_=>true))) (Ao (El q ln (λi i_1=>co i i_1) (kkN n (shG n g)) (lnN (mbF (shG n g)) (wrF (shG n g)) n) (λi i_1=>ofNat (coN (mbF (shG n g)) (wrF (shG n g)) n i i_1))) (A4 m (λk=>FM (x k) (evF n (shG n g) (λ_=>true) k)))))))))=true):(Ay (Ai tab ⟨Am Ae6,L,Gl⟩ Tryz.f35 [.agg (shL a n g m x t k p r q ln co)] [])).sem=some ((iV 0),[]):=by
 exact Ac (ks:=[kL n,kn h17,kn h0,kN (kI 0),kN (kI 0),kN (kI 0),kn h18,kL n,kL m,kL p,kn h19,kL n,kL n,kL n,kn h20,kA (kn h21) (kA (kn h22) (kA (kn h23) (kA (kn h24) (kn h25)))),kN (kI 0),kN (kI 0),kN (kn h1)]) (by kernel_rfl)
end
theorem p25:Ax Tryz.prog Gl 35 SV:=by
 refine Aj A7 mixed Tryz.func35 (by kernel_rfl) (by kernel_rfl) λvs v h' h=>?_;unfold SV at h;split at h
 ·rename_i v1
  obtain ⟨s,a1,h⟩:=apS_some h;obtain ⟨hf,h⟩:=Ad h;obtain ⟨hn,h⟩:=Ad h;have:=Ab h;simp only [Prod.mk.injEq] at this;obtain ⟨rfl,rfl⟩:=this;obtain ⟨a,n,g,m,x,t,k,p,r,q,C⟩:=s;have hA:Bj [v1] [.agg [iV a,.sl 6 n (λi=>eV (g i)),.sl 5 m (λi=>evV (x i)),iV t,iV k,.sl 1 p (λi=>iV (r i)),.sl 1 q (λu=>.sl 1 (C u).1 (λi=>iV ((C u).2 i)))]]:=λS w cs hv=>by
   obtain ⟨c,l,rfl,q1,q2⟩:=hv;exact ⟨c,_,rfl,a1 S w c q1,q2⟩
  have hn:Af n=true∧Af m=true∧Af p=true∧Af q=true∧(A4 q λi=>Af (C i).1)=true:=by simpa [BG,Ao] using hn
  obtain ⟨n1,n2,n3,n4,n5⟩:=hn;have hx:=AH Ae5 [] (G:=Gl);refine ⟨_,AA Gl Ae6 [],_,hA,rfl,hx.1,hx.2,?_,Av.refl _⟩;have CN:∀ (q:Nat) (ln:Nat->Nat),(A4 q λi=>A4 (ln i) λ_=>true)=true:=λ_ _=>A0.2 λ_ _=>A0.2 λ_ _=>rfl;show _=some (iV (sel (Cj ⟨a,n,g,m,x,t,k,p,r,q,C⟩) 0 70),_);revert n5;generalize hln:(λi=>(C i).1)=ln;generalize hco:(λi=>(C i).2)=co;have e1:∀ u,(C u).1=ln u:=λu=>by rw [<- hln]
  have e2:∀ u,(C u).2=co u:=λu=>by rw [<- hco]
  have hC:C=λu=>(ln u,co u):=by
   funext u;rw [<- e1,<- e2]
  intro n5;simp only [e1,e2] at n5 ⊢;subst hC;cases hc:ieq (BK a n g) 0 with
  | false =>rw [show Cj _=false from Xw hc];exact Ac (ks:=[kL n,kn hf,kn hc,kN (kn hc),kN (kn hc),kN (kn hc),kN (kn hc),kN (kn hc),kT]) (by kernel_rfl)/-W:w25e-/
  | true =>
   rw [show Cj _=_ from Bp hc];cases hs:Fv ⟨a,n,g,m,x,t,k,p,r,q,λu=>(ln u,co u)⟩ (ofS a n g) with
   | false=>exact AoR _ a n g m x t k p r q ln co hf hc (by simp [BJ]) (CN _ _) (CN _ _) n1 n2 n3 n4 n5 hs
   | true=>exact AoQ _ a n g m x t k p r q ln co hf hc (by simp [BJ]) (CN _ _) (CN _ _) n1 n2 n3 n4 n5 hs
 ·cases h
section
variable (L:LT) (a:Int) (n:Nat) (g:Nat->E6) (m:Nat) (x:Nat->Ev5) (t k:Int) (p:Nat) (r:Nat->Int) (q:Nat) (ln:Nat->Nat) (co:Nat->Nat->Int)
include L a n g m x t k p r q ln co
theorem AoJ (h0:ilt 16 (ofNat n)=false) (h18:BC n=true) (h1:ieq (BK a n g) 0=true) (h19:BJ [.cells (shL a n g m x t k p r q ln co),.row 92 6 n (λi=>eV (shG n g i)),.row 80 5 n (λi=>evV (evF n (shG n g) (λ_=>true) i)),.row 3 1 n (λi=>iV (rfF n (shG n g) (λ_=>true) i)),.jag (Jag.mk 24 1 (kkN n (shG n g)) Aa 0 3 1 (λ_=>true) (lnN (mbF (shG n g)) (wrF (shG n g)) n) (λk i=>iV (ofNat (coN (mbF (shG n g)) (wrF (shG n g)) n k i)))),.cells [iV a,.ref 1,.ref 2,iV (ofNat (ttN n (shG n g))),iV (ofNat (kkN n (shG n g))),.ref 3,.jref 4]]=true) (h20:A4 q (λi=>A4 (ln i) (λ_=>true))=true) (h21:A4 (kkN n (shG n g)) (λi=>A4 (lnN (mbF (shG n g)) (wrF (shG n g)) n i) (λ_=>true))=true) (h22:Af n=true) (h23:Af m=true) (h24:Af p=true) (h25:Af q=true) (h26:A4 q (λi=>Af (ln i))=true) (h2:Ao (ieq a a) (Ao (ieq t (ofNat (ttN n (shG n g)))) (Ao (ieq k (ofNat (kkN n (shG n g)))) (Ao (CB n g n (λi=>shG n g i)) (Ao (ieq (ofNat m) (ofNat n)) (Ao (Da p r n (rfF n (shG n g) (λ_=>true))) (Ao (El q ln (λi i_1=>co i i_1) (kkN n (shG n g)) (lnN (mbF (shG n g)) (wrF (shG n g)) n) (λi i_1=>ofNat (coN (mbF (shG n g)) (wrF (shG n g)) n i i_1))) (A4 m (λk=>FM (x k) (evF n (shG n g) (λ_=>true) k)))))))))=false):(Ay (Ai tab ⟨Am Ae2,L,Gl⟩ Tryz.f67 [.agg (shL a n g m x t k p r q ln co)] [])).sem=some ((iV 70),[]):=by
 exact Ac (ks:=[kn h0,kL n,kn h18,kn h1,kN (kI 0),kN (kI 0),kN (kI 0),kn h19,kL n,kL m,kL p,kn h20,kL n,kL n,kL n,kn h21,kA (kn h22) (kA (kn h23) (kA (kn h24) (kA (kn h25) (kn h26)))),kN (kI 0),kN (kI 0),kN (kn h2)]) (by kernel_rfl)
theorem AoI (h0:ilt 16 (ofNat n)=false) (h18:BC n=true) (h1:ieq (BK a n g) 0=true) (h19:BJ [.cells (shL a n g m x t k p r q ln co),.row 92 6 n (λi=>eV (shG n g i)),.row 80 5 n (λi=>evV (evF n (shG n g) (λ_=>true) i)),.row 3 1 n (λi=>iV (rfF n (shG n g) (λ_=>true) i)),.jag (Jag.mk 24 1 (kkN n (shG n g)) Aa 0 3 1 (λ_=>true) (lnN (mbF (shG n g)) (wrF (shG n g)) n) (λk i=>iV (ofNat (coN (mbF (shG n g)) (wrF (shG n g)) n k i)))),.cells [iV a,.ref 1,.ref 2,iV (ofNat (ttN n (shG n g))),iV (ofNat (kkN n (shG n g))),.ref 3,.jref 4]]=true) (h20:A4 q (λi=>A4 (ln i) (λ_=>true))=true) (h21:A4 (kkN n (shG n g)) (λi=>A4 (lnN (mbF (shG n g)) (wrF (shG n g)) n i) (λ_=>true))=true) (h22:Af n=true) (h23:Af m=true) (h24:Af p=true) (h25:Af q=true) (h26:A4 q (λi=>Af (ln i))=true) (h2:Ao (ieq a a) (Ao (ieq t (ofNat (ttN n (shG n g)))) (Ao (ieq k (ofNat (kkN n (shG n g)))) (Ao (CB n g n (λi=>shG n g i)) (Ao (ieq (ofNat m) (ofNat n)) (Ao (Da p r n (rfF n (shG n g) (λ_=>true))) (Ao (El q ln (λi i_1=>co i i_1) (kkN n (shG n g)) (lnN (mbF (shG n g)) (wrF (shG n g)) n) (λi i_1=>ofNat (coN (mbF (shG n g)) (wrF (shG n g)) n i i_1))) (A4 m (λk=>FM (x k) (evF n (shG n g) (λ_=>true) k)))))))))=true):(Ay (Ai tab ⟨Am Ae2,L,Gl⟩ Tryz.f67 [.agg (shL a n g m x t k p r q ln co)] [])).sem=some ((iV 0),[]):=by
 exact Ac (ks:=[kn h0,kL n,kn h18,kn h1,kN (kI 0),kN (kI 0),kN (kI 0),kn h19,kL n,kL m,kL p,kn h20,kL n,kL n,kL n,kn h21,kA (kn h22) (kA (kn h23) (kA (kn h24) (kA (kn h25) (kn h26)))),kN (kI 0),kN (kI 0),kN (kn h2)]) (by kernel_rfl)
end
theorem p39:Ax Tryz.prog Gl 67 SV:=by
 refine Aj A7 mixed Tryz.func67 (by kernel_rfl) (by kernel_rfl) λvs v h' h=>?_;unfold SV at h;split at h
 ·rename_i v1
  obtain ⟨s,a1,h⟩:=apS_some h;obtain ⟨hf,h⟩:=Ad h;obtain ⟨hn,h⟩:=Ad h;have:=Ab h;simp only [Prod.mk.injEq] at this;obtain ⟨rfl,rfl⟩:=this;obtain ⟨a,n,g,m,x,t,k,p,r,q,C⟩:=s;have hA:Bj [v1] [.agg [iV a,.sl 6 n (λi=>eV (g i)),.sl 5 m (λi=>evV (x i)),iV t,iV k,.sl 1 p (λi=>iV (r i)),.sl 1 q (λu=>.sl 1 (C u).1 (λi=>iV ((C u).2 i)))]]:=λS w cs hv=>by
   obtain ⟨c,l,rfl,q1,q2⟩:=hv;exact ⟨c,_,rfl,a1 S w c q1,q2⟩
  have hn:Af n=true∧Af m=true∧Af p=true∧Af q=true∧(A4 q λi=>Af (C i).1)=true:=by simpa [BG,Ao] using hn
  obtain ⟨n1,n2,n3,n4,n5⟩:=hn;have hx:=AH Ae1 [] (G:=Gl);refine ⟨_,AA Gl Ae2 [],_,hA,rfl,hx.1,hx.2,?_,Av.refl _⟩;have CN:∀ (q:Nat) (ln:Nat->Nat),(A4 q λi=>A4 (ln i) λ_=>true)=true:=λ_ _=>A0.2 λ_ _=>A0.2 λ_ _=>rfl;show _=some (iV (sel (Cj ⟨a,n,g,m,x,t,k,p,r,q,C⟩) 0 70),_);revert n5;generalize hln:(λi=>(C i).1)=ln;generalize hco:(λi=>(C i).2)=co;have e1:∀ u,(C u).1=ln u:=λu=>by rw [<- hln]
  have e2:∀ u,(C u).2=co u:=λu=>by rw [<- hco]
  have hC:C=λu=>(ln u,co u):=by
   funext u;rw [<- e1,<- e2]
  intro n5;simp only [e1,e2] at n5 ⊢;subst hC;cases h16:ilt 16 (ofNat n) with
  | true =>have hc:ieq (BK a n g) 0=false:=AdA h16;rw [show Cj _=false from Xw hc];exact Ac (ks:=[kn h16]) (by kernel_rfl)/-W:w39l-/
  | false =>
  cases hc:ieq (BK a n g) 0 with
  | false =>rw [show Cj _=false from Xw hc];exact Ac (ks:=[kn h16,kL n,kn hf,kn hc,kN (kn hc),kN (kn hc),kN (kn hc),kN (kn hc),kN (kn hc),kT]) (by kernel_rfl)/-W:w39e-/
  | true =>
   rw [show Cj _=_ from Bp hc];cases hs:Fv ⟨a,n,g,m,x,t,k,p,r,q,λu=>(ln u,co u)⟩ (ofS a n g) with
   | false=>exact AoJ _ a n g m x t k p r q ln co h16 hf hc (by simp [BJ]) (CN _ _) (CN _ _) n1 n2 n3 n4 n5 hs
   | true=>exact AoI _ a n g m x t k p r q ln co h16 hf hc (by simp [BJ]) (CN _ _) (CN _ _) n1 n2 n3 n4 n5 hs
 ·cases h
end Go.Proofs.YtkgdhhieomndeaaGreatDoor.Sh
