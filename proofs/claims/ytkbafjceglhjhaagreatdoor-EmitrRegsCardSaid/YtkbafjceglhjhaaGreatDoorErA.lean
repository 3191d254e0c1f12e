/-
  Layer 7: the law ShapeOf, as a function: the program's shape of any edges is the document's. No conditions.
-/
import Derived.Test.YtkbafjceglhjhaaGreatDoorShH
import Derived.Test.YtkbafjceglhjhaaGreatDoorEdX
namespace Go.Proofs.YtkbafjceglhjhaaGreatDoor.Sh
open Go.Sy Ed
set_option maxHeartbeats 1000000
set_option maxRecDepth 4000
noncomputable def tb3:AM:=(99,ofT)::(68,ofT)::(102,IX)::[]
theorem tb3_ok:Ar Tryz.prog Gl tb3:=.cons p14 <| .cons p15 <| .cons p16 <| .nil
end Go.Proofs.YtkbafjceglhjhaaGreatDoor.Sh
namespace Go.Proofs.YtkbafjceglhjhaaGreatDoor.Sh
open Go.Sy Ed
open Int (ofNat)
set_option maxHeartbeats 1000000
set_option maxRecDepth 4000
theorem AbM {n:Nat} {f:Nat->E6} {m:Nat} {g:Nat->E6} (h:ieq (ofNat n) (ofNat m)=false):DY n f m g=false:=by
 unfold DY;rw [h];rfl
theorem Aaf {a b:E6}:eqE a b=true↔a=b:=by
 have h:=@JD 1 (λ_=>a) 1 (λ_=>b);have e:DY 1 (λ_=>a) 1 (λ_=>b)=eqE a b:=by
  show sel (eqE a b) true false=_;cases eqE a b <;> rfl
 rw [e] at h;exact ⟨λhh=>(h.1 hh).2 0 (by omega),λhh=>h.2 ⟨rfl,λ_ _=>hh⟩⟩
theorem AbL {n:Nat} {f:Nat->E6} {m:Nat} {g:Nat->E6} (h:ieq (ofNat n) (ofNat m)=true):DY n f m g=Be n λk=>eqE (f k) (g k):=by
 rw [Bool.eq_iff_iff,JD,AE];exact ⟨λhh k hk=>Aaf.2 (hh.2 k hk),λhh=>⟨BP h,λk hk=>Aaf.1 (hh k hk)⟩⟩
def OC (n:Nat) (f:Nat->Ev5) (m:Nat) (g:Nat->Ev5):Bool:=Aj (ieq (ofNat n) (ofNat m)) (Be n λk=>H3 (f k) (g k))
def TR:List V->A9
 | [v,u]=>apG codE v λn f=>apG codE u λm g=>.br (Ao n) (.leaf (bV (DY n f m g),[])) .fail
 | _=>.fail
def TQ:List V->A9
 | [v,u]=>apG QK v λn f=>apG QK u λm g=>.br (Ao n) (.leaf (bV (OC n f m g),[])) .fail
 | _=>.fail
def PK:List V->A9
 | [v,u,.fn 145 []]=>apG codJ v λn C=>apG codJ u λm D=>.br (Ao n) (.br (Be n λi=>Ao (C i).1) (.leaf (bV (Fz n (λi=>(C i).1) (λi=>(C i).2) m (λi=>(D i).1) (λi=>(D i).2)),[])) .fail) .fail
 | _=>.fail
def AjF:Lp:=⟨bmK 26 0 [0,1,4,12,13],0,bmK 26 0 [4],0,4611686018427387905⟩
def S89 (n:Nat) (f:Nat->E6) (m:Nat) (g:Nat->E6) (c:Int) (a:Unit) (j:Nat->V):St:=⟨jsV 26 0 j [(0,.sl 6 n (λi=>eV (f i))),(1,.sl 6 m (λi=>eV (g i))),(4,bV false),(12,nV n),(13,iV c)],[]⟩
noncomputable def B89 (L:LT):St->T (Ex×St):=λst=>AL tab ⟨A0 tb0,L,Gl⟩ (A3 Tryz.f143 0) 0 st
def AhU (n:Nat) (f:Nat->E6) (m:Nat) (g:Nat->E6) (i:Nat) (a:Unit):Ex×St:=(.rt,⟨jsV 26 0 Ab [(4,bV false)],[]⟩)
def g89 (n:Nat) (f:Nat->E6) (m:Nat) (g:Nat->E6) (i:Nat) (a:Unit):T ((Unit) ⊕ (Ex×St)):=.br (eqE (f i) (g i)) (.leaf (.inl ())) (.leaf (.inr (AhU n f m g i a)))
def Akw (n:Nat) (f:Nat->E6) (m:Nat) (g:Nat->E6) (a:Unit):Ex×St:=(.ex 0,⟨jsV 26 0 Ab [(4,bV false)],[]⟩)
theorem r89 (L:LT) (n:Nat) (f:Nat->E6) (m:Nat) (g:Nat->E6) (hm:n=m) (hn:n <= 4611686018427387904) {e:Ex×St} {a:Unit} {j:Nat->V} (h:BV (g89 n f m g) (Akw n f m g) n 0 a=some e):(A4 (B89 L) AjF 4611686018427387905 (S89 n f m g 0 a j)).sem=some (exR e) :=
 AD Bq hn (λi a j r hi h=>DK.ok (L:=goR (S89 n f m g) exR i) (.k (ofNat_lt hi) <| .k (Ae hi) <| .k (Ae (hm ▸ hi)) <| .c (λh1=>.k (eN h1) <| .l) λh1=>.k (eN h1) <| .l) (by kernel_rfl) h) (λa j=>DK.ok (C:=.leaf (Akw n f m g a)) (L:=exR) (.k (Au (Nat.le_refl n)) .l) (by kernel_rfl) rfl) (Nat.zero_add _).symm (Nat.lt_succ_of_le hn) h
def Acr:List (Nat×Lp×List (Nat×(Nat->V))):=[(0,AjF,[])]
def C89 (n:Nat) (f:Nat->E6) (m:Nat) (g:Nat->E6):A9:=.br (ieq (ofNat n) (ofNat m)) (.br (Be n λk=>eqE (f k) (g k)) (.leaf ((bV true),[])) (.leaf ((bV false),[]))) (.leaf ((bV false),[]))
theorem Ad4 (n:Nat) (f:Nat->E6) (m:Nat) (g:Nat->E6):(C89 n f m g).sem=some (bV (DY n f m g),[]):=by
 unfold C89;cases h:ieq (ofNat n) (ofNat m)
 ·rw [AbM h]; rfl
 rw [AbL h];cases Be n λk=>eqE (f k) (g k) <;> rfl
theorem p103:As Tryz.prog Gl 143 TR:=by
 refine Am A8 mixed Tryz.func143 (by kernel_rfl) (by kernel_rfl) λvs v h' h=>?_;unfold TR at h;split at h
 ·rename_i v1 u1
  obtain ⟨n,f,a1,h⟩:=BX h;obtain ⟨m,g,a2,h⟩:=BX h;obtain ⟨hn,h⟩:=Ac h;have:=Aa h;simp only [Prod.mk.injEq] at this;obtain ⟨rfl,rfl⟩:=this;have w:DK (λa=>a) (C89 n f m g) _:=.c (λh1=>.k (eN h1) <| .c (λh2=>.a (r89 (askL Acr) n f m g (BP h1) (Ci hn) (j:=λ_=>.und) (NW (λ_ _=>rfl) h2)) <| .l) λh2=>.a (r89 (askL Acr) n f m g (BP h1) (Ci hn) (j:=λ_=>.und) (NX (λ_ _=>rfl) h2)) <| .l) λh1=>.k (eN h1) <| .l
  have hx:=Bs CN Acr (G:=Gl);exact ⟨_,cxA Gl tb0 Acr,_,(show BC [v1,u1] [HI codE n f,HI codE m g] from λS w cs hv=>by
   obtain ⟨c,l,rfl,q1,c',l',rfl,q2,q3⟩:=hv;exact ⟨c,_,rfl,a1 S w c q1,c',l',rfl,a2 S w c' q2,q3⟩),rfl,hx.1,hx.2,DK.of (Ad4 n f m g) w (by kernel_rfl),Aw.refl _⟩
 ·cases h
def AjE:Lp:=⟨bmK 26 0 [0,1,4,12,13],0,bmK 26 0 [4],0,4611686018427387905⟩
def S90 (n:Nat) (f:Nat->Ev5) (m:Nat) (g:Nat->Ev5) (c:Int) (a:Unit) (j:Nat->V):St:=⟨jsV 26 0 j [(0,.sl 5 n (λi=>evV (f i))),(1,.sl 5 m (λi=>evV (g i))),(4,bV false),(12,nV n),(13,iV c)],[]⟩
noncomputable def B90 (L:LT):St->T (Ex×St):=λst=>AL tab ⟨A0 tb0,L,Gl⟩ (A3 Tryz.f144 0) 0 st
def AhT (n:Nat) (f:Nat->Ev5) (m:Nat) (g:Nat->Ev5) (i:Nat) (a:Unit):Ex×St:=(.rt,⟨jsV 26 0 Ab [(4,bV false)],[]⟩)
def g90 (n:Nat) (f:Nat->Ev5) (m:Nat) (g:Nat->Ev5) (i:Nat) (a:Unit):T ((Unit) ⊕ (Ex×St)):=.br (Aj (ieq (f i).th (g i).th) (Aj (ieq (f i).pl (g i).pl) (Aj (ieq (f i).dir (g i).dir) (Aj (ieq (f i).loc (g i).loc) (Aj (ieq (f i).val (g i).val) true))))) (.leaf (.inl ())) (.leaf (.inr (AhT n f m g i a)))
def Akv (n:Nat) (f:Nat->Ev5) (m:Nat) (g:Nat->Ev5) (a:Unit):Ex×St:=(.ex 0,⟨jsV 26 0 Ab [(4,bV false)],[]⟩)
theorem r90 (L:LT) (n:Nat) (f:Nat->Ev5) (m:Nat) (g:Nat->Ev5) (hm:n=m) (hn:n <= 4611686018427387904) {e:Ex×St} {a:Unit} {j:Nat->V} (h:BV (g90 n f m g) (Akv n f m g) n 0 a=some e):(A4 (B90 L) AjE 4611686018427387905 (S90 n f m g 0 a j)).sem=some (exR e) :=
 AD Bq hn (λi a j r hi h=>DK.ok (L:=goR (S90 n f m g) exR i) (.k (ofNat_lt hi) <| .k (Ae hi) <| .k (Ae (hm ▸ hi)) <| .c (λh1=>.k (eN h1) <| .l) λh1=>.k (eN h1) <| .l) (by kernel_rfl) h) (λa j=>DK.ok (C:=.leaf (Akv n f m g a)) (L:=exR) (.k (Au (Nat.le_refl n)) .l) (by kernel_rfl) rfl) (Nat.zero_add _).symm (Nat.lt_succ_of_le hn) h
def Acp:List (Nat×Lp×List (Nat×(Nat->V))):=[(0,AjE,[])]
def C90 (n:Nat) (f:Nat->Ev5) (m:Nat) (g:Nat->Ev5):A9:=.br (ieq (ofNat n) (ofNat m)) (.br (Be n λk=>H3 (f k) (g k)) (.leaf ((bV true),[])) (.leaf ((bV false),[]))) (.leaf ((bV false),[]))
theorem Ad3 (n:Nat) (f:Nat->Ev5) (m:Nat) (g:Nat->Ev5):(C90 n f m g).sem=some (bV (OC n f m g),[]):=by
 unfold C90;unfold OC;cases ieq (ofNat n) (ofNat m)
 ·rfl
 cases Be n λk=>H3 (f k) (g k) <;> rfl
theorem p104:As Tryz.prog Gl 144 TQ:=by
 refine Am A8 mixed Tryz.func144 (by kernel_rfl) (by kernel_rfl) λvs v h' h=>?_;unfold TQ at h;split at h
 ·rename_i v1 u1
  obtain ⟨n,f,a1,h⟩:=BX h;obtain ⟨m,g,a2,h⟩:=BX h;obtain ⟨hn,h⟩:=Ac h;have:=Aa h;simp only [Prod.mk.injEq] at this;obtain ⟨rfl,rfl⟩:=this;have w:DK (λa=>a) (C90 n f m g) _:=.c (λh1=>.k (eN h1) <| .c (λh2=>.a (r90 (askL Acp) n f m g (BP h1) (Ci hn) (j:=λ_=>.und) (NW (λ_ _=>rfl) h2)) <| .l) λh2=>.a (r90 (askL Acp) n f m g (BP h1) (Ci hn) (j:=λ_=>.und) (NX (λ_ _=>rfl) h2)) <| .l) λh1=>.k (eN h1) <| .l
  have hx:=Bs CN Acp (G:=Gl);exact ⟨_,cxA Gl tb0 Acp,_,(show BC [v1,u1] [HI QK n f,HI QK m g] from λS w cs hv=>by
   obtain ⟨c,l,rfl,q1,c',l',rfl,q2,q3⟩:=hv;exact ⟨c,_,rfl,a1 S w c q1,c',l',rfl,a2 S w c' q2,q3⟩),rfl,hx.1,hx.2,DK.of (Ad3 n f m g) w (by kernel_rfl),Aw.refl _⟩
 ·cases h
def AjD:Lp:=⟨bmK 26 0 [0,1,4,12,13],0,bmK 26 0 [4],0,4611686018427387905⟩
def S91 (n:Nat) (f:Nat->Int) (m:Nat) (g:Nat->Int) (c:Int) (a:Unit) (j:Nat->V):St:=⟨jsV 26 0 j [(0,.sl 1 n (λi=>iV (f i))),(1,.sl 1 m (λi=>iV (g i))),(4,bV false),(12,nV n),(13,iV c)],[]⟩
noncomputable def B91 (L:LT):St->T (Ex×St):=λst=>AL tab ⟨A0 tb0,L,Gl⟩ (A3 Tryz.f145 0) 0 st
def AhS (n:Nat) (f:Nat->Int) (m:Nat) (g:Nat->Int) (i:Nat) (a:Unit):Ex×St:=(.rt,⟨jsV 26 0 Ab [(4,bV false)],[]⟩)
def g91 (n:Nat) (f:Nat->Int) (m:Nat) (g:Nat->Int) (i:Nat) (a:Unit):T ((Unit) ⊕ (Ex×St)):=.br (ieq (f i) (g i)) (.leaf (.inl ())) (.leaf (.inr (AhS n f m g i a)))
def Aku (n:Nat) (f:Nat->Int) (m:Nat) (g:Nat->Int) (a:Unit):Ex×St:=(.ex 0,⟨jsV 26 0 Ab [(4,bV false)],[]⟩)
theorem r91 (L:LT) (n:Nat) (f:Nat->Int) (m:Nat) (g:Nat->Int) (hm:n=m) (hn:n <= 4611686018427387904) {e:Ex×St} {a:Unit} {j:Nat->V} (h:BV (g91 n f m g) (Aku n f m g) n 0 a=some e):(A4 (B91 L) AjD 4611686018427387905 (S91 n f m g 0 a j)).sem=some (exR e) :=
 AD Bq hn (λi a j r hi h=>DK.ok (L:=goR (S91 n f m g) exR i) (.k (ofNat_lt hi) <| .k (Ae hi) <| .k (Ae (hm ▸ hi)) <| .c (λh1=>.k (eN h1) <| .l) λh1=>.k (eN h1) <| .l) (by kernel_rfl) h) (λa j=>DK.ok (C:=.leaf (Aku n f m g a)) (L:=exR) (.k (Au (Nat.le_refl n)) .l) (by kernel_rfl) rfl) (Nat.zero_add _).symm (Nat.lt_succ_of_le hn) h
def Aco:List (Nat×Lp×List (Nat×(Nat->V))):=[(0,AjD,[])]
def C91 (n:Nat) (f:Nat->Int) (m:Nat) (g:Nat->Int):A9:=.br (ieq (ofNat n) (ofNat m)) (.br (Be n λk=>ieq (f k) (g k)) (.leaf ((bV true),[])) (.leaf ((bV false),[]))) (.leaf ((bV false),[]))
theorem Ad2 (n:Nat) (f:Nat->Int) (m:Nat) (g:Nat->Int):(C91 n f m g).sem=some (bV (D3 n f m g),[]):=by
 unfold C91;unfold D3;cases ieq (ofNat n) (ofNat m)
 ·rfl
 cases Be n λk=>ieq (f k) (g k) <;> rfl
theorem Ajt:As Tryz.prog Gl 145 HF:=by
 refine Am A8 mixed Tryz.func145 (by kernel_rfl) (by kernel_rfl) λvs v h' h=>?_;unfold HF at h;split at h
 ·rename_i v1 u1
  obtain ⟨n,f,a1,h⟩:=BX h;obtain ⟨m,g,a2,h⟩:=BX h;obtain ⟨hn,h⟩:=Ac h;have:=Aa h;simp only [Prod.mk.injEq] at this;obtain ⟨rfl,rfl⟩:=this;have w:DK (λa=>a) (C91 n f m g) _:=.c (λh1=>.k (eN h1) <| .c (λh2=>.a (r91 (askL Aco) n f m g (BP h1) (Ci hn) (j:=λ_=>.und) (NW (λ_ _=>rfl) h2)) <| .l) λh2=>.a (r91 (askL Aco) n f m g (BP h1) (Ci hn) (j:=λ_=>.und) (NX (λ_ _=>rfl) h2)) <| .l) λh1=>.k (eN h1) <| .l
  have hx:=Bs CN Aco (G:=Gl);exact ⟨_,cxA Gl tb0 Aco,_,(show BC [v1,u1] [HI QL n f,HI QL m g] from λS w cs hv=>by
   obtain ⟨c,l,rfl,q1,c',l',rfl,q2,q3⟩:=hv;exact ⟨c,_,rfl,a1 S w c q1,c',l',rfl,a2 S w c' q2,q3⟩),rfl,hx.1,hx.2,DK.of (Ad2 n f m g) w (by kernel_rfl),Aw.refl _⟩
 ·cases h
noncomputable def tb106:AM:=(145,HF)::[]
theorem tb106_ok:Ar Tryz.prog Gl tb106:=.cons Ajt .nil
def Aep:Lp:=⟨bmK 32 0 [0,1,2,6,15,16,17],0,bmK 32 0 [6],0,4611686018427387905⟩
def AkO (n:Nat) (C:Nat->Nat×(Nat->Int)) (m:Nat) (D:Nat->Nat×(Nat->Int)) (c:Int) (a:Unit) (j:Nat->V):St:=⟨jsV 32 0 j [(0,.sl 1 n (λu=>.sl 1 (C u).1 (λi=>iV ((C u).2 i)))),(1,.sl 1 m (λu=>.sl 1 (D u).1 (λi=>iV ((D u).2 i)))),(2,.fn 145 []),(6,bV false),(15,.sl 1 n (λu=>.sl 1 (C u).1 (λi=>iV ((C u).2 i)))),(16,nV n),(17,iV c)],[]⟩
noncomputable def Amb (L:LT):St->T (Ex×St):=λst=>AL tab ⟨A0 tb106,L,Gl⟩ (A3 Tryz.f146 0) 0 st
def Aff (n:Nat) (C:Nat->Nat×(Nat->Int)) (m:Nat) (D:Nat->Nat×(Nat->Int)) (i:Nat) (a:Unit):Ex×St:=(.rt,⟨jsV 32 0 Ab [(6,bV false)],[]⟩)
def AlA (n:Nat) (C:Nat->Nat×(Nat->Int)) (m:Nat) (D:Nat->Nat×(Nat->Int)) (i:Nat) (a:Unit):T ((Unit) ⊕ (Ex×St)):=.br (D3 (C i).1 (C i).2 (D i).1 (D i).2) (.leaf (.inl ())) (.leaf (.inr (Aff n C m D i a)))
def AeI (n:Nat) (C:Nat->Nat×(Nat->Int)) (m:Nat) (D:Nat->Nat×(Nat->Int)) (a:Unit):Ex×St:=(.ex 0,⟨jsV 32 0 Ab [(6,bV false)],[]⟩)
theorem Ajh (L:LT) (n:Nat) (C:Nat->Nat×(Nat->Int)) (m:Nat) (D:Nat->Nat×(Nat->Int)) (hm:n=m) (hs:(Be n λk=>Ao (C k).1)=true) (hn:n <= 4611686018427387904) {e:Ex×St} {a:Unit} {j:Nat->V} (h:BV (AlA n C m D) (AeI n C m D) n 0 a=some e):(A4 (Amb L) Aep 4611686018427387905 (AkO n C m D 0 a j)).sem=some (exR e) :=
 AD Bq hn (λi a j r hi h=>DK.ok (L:=goR (AkO n C m D) exR i) (.k (ofNat_lt hi) <| .k (Ae hi) <| .k (Ae (hm ▸ hi)) <| .k (eL (C i).1) <| .k (eL (D i).1) <| .k (AE.1 hs i hi) <| .c (λh1=>.k (eN h1) <| .l) λh1=>.k (eN h1) <| .l) (by kernel_rfl) h) (λa j=>DK.ok (C:=.leaf (AeI n C m D a)) (L:=exR) (.k (Au (Nat.le_refl n)) .l) (by kernel_rfl) rfl) (Nat.zero_add _).symm (Nat.lt_succ_of_le hn) h
def VC:List (Nat×Lp×List (Nat×(Nat->V))):=[(0,Aep,[])]
def AhP (n:Nat) (C:Nat->Nat×(Nat->Int)) (m:Nat) (D:Nat->Nat×(Nat->Int)):A9:=.br (ieq (ofNat n) (ofNat m)) (.br (Be n λk=>D3 (C k).1 (C k).2 (D k).1 (D k).2) (.leaf ((bV true),[])) (.leaf ((bV false),[]))) (.leaf ((bV false),[]))
theorem AaV (n:Nat) (C:Nat->Nat×(Nat->Int)) (m:Nat) (D:Nat->Nat×(Nat->Int)):(AhP n C m D).sem=some (bV (Fz n (λi=>(C i).1) (λi=>(C i).2) m (λi=>(D i).1) (λi=>(D i).2)),[]):=by
 unfold AhP Fz;cases ieq (ofNat n) (ofNat m)
 ·rfl
 cases Be n λk=>D3 (C k).1 (C k).2 (D k).1 (D k).2 <;> rfl
theorem Aly:As Tryz.prog Gl 146 PK:=by
 refine Am A8 mixed Tryz.func146 (by kernel_rfl) (by kernel_rfl) λvs v h' h=>?_;unfold PK at h;split at h
 ·rename_i v1 u1
  obtain ⟨n,C,a1,h⟩:=BX h;obtain ⟨m,D,a2,h⟩:=BX h;obtain ⟨hn,h⟩:=Ac h;obtain ⟨hs,h⟩:=Ac h;have:=Aa h;simp only [Prod.mk.injEq] at this;obtain ⟨rfl,rfl⟩:=this;have w:DK (λa=>a) (AhP n C m D) _:=.c (λh1=>.k (eN h1) <| .c (λh2=>.a (Ajh (askL VC) n C m D (BP h1) hs (Ci hn) (j:=λ_=>.und) (NW (λ_ _=>rfl) h2)) <| .l) λh2=>.a (Ajh (askL VC) n C m D (BP h1) hs (Ci hn) (j:=λ_=>.und) (NX (λ_ _=>rfl) h2)) <| .l) λh1=>.k (eN h1) <| .l
  have hx:=Bs tb106_ok VC (G:=Gl);exact ⟨_,cxA Gl tb106 VC,_,(show BC [v1,u1,.fn 145 []] [.sl 1 n (λu=>.sl 1 (C u).1 (λi=>iV ((C u).2 i))),.sl 1 m (λu=>.sl 1 (D u).1 (λi=>iV ((D u).2 i))),.fn 145 []] from λS w cs hv=>by
   obtain ⟨c,l,rfl,q1,c',l',rfl,q2,q3⟩:=hv;exact ⟨c,_,rfl,a1 S w c q1,c',l',rfl,a2 S w c' q2,q3⟩),rfl,hx.1,hx.2,DK.of (AaV n C m D) w (by kernel_rfl),Aw.refl _⟩
 ·cases h
noncomputable def Ai0:AM:=(143,TR)::(144,TQ)::(145,HF)::(146,PK)::[]
theorem Abm:Ar Tryz.prog Gl Ai0:=.cons p103 <| .cons p104 <| .cons Ajt <| .cons Aly .nil
theorem AbK (a b c d e i j k:Bool):Aj a (Aj b (Aj c (Aj d (Aj e (Aj i (Aj j k))))))=Aj a (Aj b (Aj c (Aj d (Aj (Aj e k) (Aj i (Aj j true)))))):=by
 cases a <;> cases b <;> cases c <;> cases d <;> cases e <;> cases i <;> cases j <;> cases k <;> rfl
def C58 (s s':Sh7):A9:=.br (ieq s.arch s'.arch) (.br (ieq s.tt s'.tt) (.br (ieq s.kk s'.kk) (.br (DY s.ne (λi=>s.E i) s'.ne (λi=>s'.E i)) (.br (OC s.nx (λi=>s.X i) s'.nx (λi=>s'.X i)) (.br (D3 s.nr s.R s'.nr s'.R) (.leaf ((bV (Fz s.nc (λi=>(s.C i).1) (λi i_1=>(s.C i).2 i_1) s'.nc (λi=>(s'.C i).1) (λi i_1=>(s'.C i).2 i_1))),[])) (.leaf ((bV false),[]))) (.leaf ((bV false),[]))) (.leaf ((bV false),[]))) (.leaf ((bV false),[]))) (.leaf ((bV false),[]))) (.leaf ((bV false),[]))
theorem Ad8 (s s':Sh7):(C58 s s').sem=some (bV (IK s s'),[]):=by
 unfold C58 IK;rw [AbK];show _=some (bV (Aj _ (Aj _ (Aj _ (Aj _ (Aj (OC s.nx s.X s'.nx s'.X) _))))),[]);cases ieq s.arch s'.arch
 ·rfl
 cases ieq s.tt s'.tt
 ·rfl
 cases ieq s.kk s'.kk
 ·rfl
 cases DY s.ne s.E s'.ne s'.E
 ·rfl
 cases OC s.nx s.X s'.nx s'.X
 ·rfl
 cases D3 s.nr s.R s'.nr s'.R
 ·rfl
 cases Fz s.nc (λi=>(s.C i).1) (λi=>(s.C i).2) s'.nc (λi=>(s'.C i).1) (λi=>(s'.C i).2) <;> rfl
theorem p72:As Tryz.prog Gl 100 IX:=by
 refine Am A8 mixed Tryz.func100 (by kernel_rfl) (by kernel_rfl) λvs v h' h=>?_;unfold IX at h;split at h
 ·rename_i v1 u1
  obtain ⟨s,a1,h⟩:=apS_some h;obtain ⟨s',a2,h⟩:=apS_some h;obtain ⟨hn,h⟩:=Ac h;have:=Aa h;simp only [Prod.mk.injEq] at this;obtain ⟨rfl,rfl⟩:=this;have hn:Ao s.ne=true∧Ao s.nx=true∧Ao s.nr=true∧Ao s.nc=true∧(Be s.nc λi=>Ao (s.C i).1)=true:=by simpa [IV,Aj] using hn
  obtain ⟨n1,n2,n3,n4,n5⟩:=hn;have w:DK (λa=>a) (C58 s s') _:=.c (λh1=>.r 6 h1 <| .c (λh2=>.r 6 h2 <| .c (λh3=>.r 5 h3 <| .k (eL s.ne) <| .k (eL s'.ne) <| .k n1 <| .k h3 <| .c (λh4=>.r 5 h4 <| .k (eL s.nx) <| .k (eL s'.nx) <| .k n2 <| .k h4 <| .c (λh5=>.r 5 h5 <| .k (eL s.nr) <| .k (eL s'.nr) <| .k n3 <| .k h5 <| .c (λh6=>.r 5 h6 <| .k (eL2 s.nc s.C) <| .k (eL2 s'.nc s'.C) <| .k n4 <| .k n5 <| .k h6 <| .l) λh6=>.r 6 h6 <| .l) λh5=>.r 6 h5 <| .r 6 eF <| .l) λh4=>.r 6 h4 <| .r 12 eF <| .l) λh3=>.r 6 h3 <| .r 18 eF <| .l) λh2=>.r 6 h2 <| .r 24 eF <| .l) λh1=>.r 6 h1 <| .r 30 eF <| .l
  have hx:=Bs Abm [] (G:=Gl);exact ⟨_,cxA Gl Ai0 [],_,(show BC [v1,u1] [GQ s,GQ s'] from λS w cs hv=>by
   obtain ⟨c,l,rfl,q1,c',l',rfl,q2,q3⟩:=hv;exact ⟨c,_,rfl,a1 S w c q1,c',l',rfl,a2 S w c' q2,q3⟩),rfl,hx.1,hx.2,DK.of (Ad8 s s') w (by kernel_rfl),Aw.refl _⟩
 ·cases h
end Go.Proofs.YtkbafjceglhjhaaGreatDoor.Sh
namespace Go.Proofs.YtkbafjceglhjhaaGreatDoor.Sh
open Go.Sy Ed
open Int (ofNat)
set_option maxHeartbeats 1000000
set_option maxRecDepth 4000
def ofS (a:Int) (n:Nat) (f:Nat->E6):Sh7:=⟨a,n,shG n f,n,evF n (shG n f) (λ_=>true),ofNat (ttN n (shG n f)),ofNat (kkN n (shG n f)),n,rfF n (shG n f) (λ_=>true),kkN n (shG n f),
 λk=>(lnN (mbF (shG n f)) (wrF (shG n f)) n k,λi=>ofNat (coN (mbF (shG n f)) (wrF (shG n f)) n k i))⟩
def Dn (s:Sh7):Bool:=Aj (ieq (Gw s.arch s.ne s.E) 0) (IK s (ofS s.arch s.ne s.E))
def Jl:List V->A9
 | [v]=>apS v λs=>.br (CJ s.ne) (.br (IV s) (.leaf (iV (sel (Dn s) 0 70),[])) .fail) .fail
 | _=>.fail
theorem Aa0 {a:Int} {n:Nat} {f:Nat->E6} (h:ilt 16 (ofNat n)=true):ieq (Gw a n f) 0=false:=by
 cases hc:ieq (Gw a n f) 0 with
 | false=>rfl
 | true =>have:=(Bj hc).hi;rw [show (16:Int)=ofNat 16 from rfl,Dv] at h;have:=of_decide_eq_true h;omega
noncomputable def Ab3:AM:=(99,ofT)::(100,IX)::[]
theorem Ab2:Ar Tryz.prog Gl Ab3:=.cons p14 <| .cons p72 .nil
noncomputable def Abw:AM:=(68,ofT)::(102,IX)::[]
theorem Abv:Ar Tryz.prog Gl Abw:=.cons p15 <| .cons p16 .nil
section
variable (L:LT) (a:Int) (n:Nat) (g:Nat->E6) (m:Nat) (x:Nat->Ev5) (t k:Int) (p:Nat) (r:Nat->Int) (q:Nat) (ln:Nat->Nat) (co:Nat->Nat->Int)
include L a n g m x t k p r q ln co
theorem Alf (h17:CJ n=true) (h0:ieq (Gw a n g) 0=true) (h18:BD [.cells (shL a n g m x t k p r q ln co),.row 76 6 n (λi=>eV (shG n g i)),.row 74 5 n (λi=>evV (evF n (shG n g) (λ_=>true) i)),.row 3 1 n (λi=>iV (rfF n (shG n g) (λ_=>true) i)),.jag (Jag.mk 24 1 (kkN n (shG n g)) Ab 0 3 1 (λ_=>true) (lnN (mbF (shG n g)) (wrF (shG n g)) n) (λk i=>iV (ofNat (coN (mbF (shG n g)) (wrF (shG n g)) n k i))) none),.cells [iV a,.ref 1,.ref 2,iV (ofNat (ttN n (shG n g))),iV (ofNat (kkN n (shG n g))),.ref 3,.jref 4]]=true) (h19:Be q (λi=>Be (ln i) (λ_=>true))=true) (h20:Be (kkN n (shG n g)) (λi=>Be (lnN (mbF (shG n g)) (wrF (shG n g)) n i) (λ_=>true))=true) (h21:Ao n=true) (h22:Ao m=true) (h23:Ao p=true) (h24:Ao q=true) (h25:Be q (λi=>Ao (ln i))=true) (h1:Aj (ieq a a) (Aj (ieq t (ofNat (ttN n (shG n g)))) (Aj (ieq k (ofNat (kkN n (shG n g)))) (Aj (DY n g n (λi=>shG n g i)) (Aj (ieq (ofNat m) (ofNat n)) (Aj (D3 p r n (rfF n (shG n g) (λ_=>true))) (Aj (Fz q ln (λi i_1=>co i i_1) (kkN n (shG n g)) (lnN (mbF (shG n g)) (wrF (shG n g)) n) (λi i_1=>ofNat (coN (mbF (shG n g)) (wrF (shG n g)) n i i_1))) (Be m (λk=>H3 (x k) (evF n (shG n g) (λ_=>true) k)))))))))=false):(Ax (Ak tab ⟨A0 Ab3,L,Gl⟩ Tryz.f60 [.agg (shL a n g m x t k p r q ln co)] [])).sem=some ((iV 70),[]):=by
 exact Ad (ks:=[kL n,kn h17,kn h0,kN (kI 0),kN (kI 0),kN (kI 0),kn h18,kL n,kL m,kL p,kn h19,kL n,kL n,kL n,kn h20,kA (kn h21) (kA (kn h22) (kA (kn h23) (kA (kn h24) (kn h25)))),kN (kI 0),kN (kI 0),kN (kn h1)]) (by kernel_rfl)
theorem Ale (h17:CJ n=true) (h0:ieq (Gw a n g) 0=true) (h18:BD [.cells (shL a n g m x t k p r q ln co),.row 76 6 n (λi=>eV (shG n g i)),.row 74 5 n (λi=>evV (evF n (shG n g) (λ_=>true) i)),.row 3 1 n (λi=>iV (rfF n (shG n g) (λ_=>true) i)),.jag (Jag.mk 24 1 (kkN n (shG n g)) Ab 0 3 1 (λ_=>true) (lnN (mbF (shG n g)) (wrF (shG n g)) n) (λk i=>iV (ofNat (coN (mbF (shG n g)) (wrF (shG n g)) n k i))) none),.cells [iV a,.ref 1,.ref 2,iV (ofNat (ttN n (shG n g))),iV (ofNat (kkN n (shG n g))),.ref 3,.jref 4]]=true) (h19:Be q (λi=>Be (ln i) (λ_=>true))=true) (h20:Be (kkN n (shG n g)) (λi=>Be (lnN (mbF (shG n g)) (wrF (shG n g)) n i) (λ_=>true))=true) (h21:Ao n=true) (h22:Ao m=true) (h23:Ao p=true) (h24:Ao q=true) (h25:Be q (λi=>Ao (ln i))=true) (h1:Aj (ieq a a) (Aj (ieq t (ofNat (ttN n (shG n g)))) (Aj (ieq k (ofNat (kkN n (shG n g)))) (Aj (DY n g n (λi=>shG n g i)) (Aj (ieq (ofNat m) (ofNat n)) (Aj (D3 p r n (rfF n (shG n g) (λ_=>true))) (Aj (Fz q ln (λi i_1=>co i i_1) (kkN n (shG n g)) (lnN (mbF (shG n g)) (wrF (shG n g)) n) (λi i_1=>ofNat (coN (mbF (shG n g)) (wrF (shG n g)) n i i_1))) (Be m (λk=>H3 (x k) (evF n (shG n g) (λ_=>true) k)))))))))=true):(Ax (Ak tab ⟨A0 Ab3,L,Gl⟩ Tryz.f60 [.agg (shL a n g m x t k p r q ln co)] [])).sem=some ((iV 0),[]):=by
 exact Ad (ks:=[kL n,kn h17,kn h0,kN (kI 0),kN (kI 0),kN (kI 0),kn h18,kL n,kL m,kL p,kn h19,kL n,kL n,kL n,kn h20,kA (kn h21) (kA (kn h22) (kA (kn h23) (kA (kn h24) (kn h25)))),kN (kI 0),kN (kI 0),kN (kn h1)]) (by kernel_rfl)
end
theorem p25:As Tryz.prog Gl 60 Jl:=by
 refine Am A8 mixed Tryz.func60 (by kernel_rfl) (by kernel_rfl) λvs v h' h=>?_;unfold Jl at h;split at h
 ·rename_i v1
  obtain ⟨s,a1,h⟩:=apS_some h;obtain ⟨hf,h⟩:=Ac h;obtain ⟨hn,h⟩:=Ac h;have:=Aa h;simp only [Prod.mk.injEq] at this;obtain ⟨rfl,rfl⟩:=this;obtain ⟨a,n,g,m,x,t,k,p,r,q,C⟩:=s;have hA:BC [v1] [.agg [iV a,.sl 6 n (λi=>eV (g i)),.sl 5 m (λi=>evV (x i)),iV t,iV k,.sl 1 p (λi=>iV (r i)),.sl 1 q (λu=>.sl 1 (C u).1 (λi=>iV ((C u).2 i)))]]:=λS w cs hv=>by
   obtain ⟨c,l,rfl,q1,q2⟩:=hv;exact ⟨c,_,rfl,a1 S w c q1,q2⟩
  have hn:Ao n=true∧Ao m=true∧Ao p=true∧Ao q=true∧(Be q λi=>Ao (C i).1)=true:=by simpa [IV,Aj] using hn
  obtain ⟨n1,n2,n3,n4,n5⟩:=hn;have hx:=Bi Ab2 [] (G:=Gl);refine ⟨_,Bd Gl Ab3 [],_,hA,rfl,hx.1,hx.2,?_,Aw.refl _⟩;have all2:∀ (q:Nat) (ln:Nat->Nat),(Be q λi=>Be (ln i) λ_=>true)=true:=λ_ _=>AE.2 λ_ _=>AE.2 λ_ _=>rfl;show _=some (iV (sel (Dn ⟨a,n,g,m,x,t,k,p,r,q,C⟩) 0 70),_);revert n5;generalize hln:(λi=>(C i).1)=ln;generalize hco:(λi=>(C i).2)=co;have e1:∀ u,(C u).1=ln u:=λu=>by rw [<- hln]
  have e2:∀ u,(C u).2=co u:=λu=>by rw [<- hco]
  have hC:C=λu=>(ln u,co u):=by
   funext u;rw [<- e1,<- e2]
  intro n5;simp only [e1,e2] at n5 ⊢;subst hC;cases hc:ieq (Gw a n g) 0 with
  | false =>rw [show Dn _=false from UX hc];exact Ad (ks:=[kL n,kn hf,kn hc,kN (kn hc),kN (kn hc),kN (kn hc),kN (kn hc),kN (kn hc),kT]) (by kernel_rfl)/-W:w25e-/
  | true =>
   rw [show Dn _=_ from Js hc];cases hs:IK ⟨a,n,g,m,x,t,k,p,r,q,λu=>(ln u,co u)⟩ (ofS a n g) with
   | false=>exact Alf _ a n g m x t k p r q ln co hf hc (by simp [BD]) (all2 _ _) (all2 _ _) n1 n2 n3 n4 n5 hs
   | true=>exact Ale _ a n g m x t k p r q ln co hf hc (by simp [BD]) (all2 _ _) (all2 _ _) n1 n2 n3 n4 n5 hs
 ·cases h
section
variable (L:LT) (a:Int) (n:Nat) (g:Nat->E6) (m:Nat) (x:Nat->Ev5) (t k:Int) (p:Nat) (r:Nat->Int) (q:Nat) (ln:Nat->Nat) (co:Nat->Nat->Int)
include L a n g m x t k p r q ln co
theorem Ald (h0:ilt 16 (ofNat n)=false) (h18:CJ n=true) (h1:ieq (Gw a n g) 0=true) (h19:BD [.cells (shL a n g m x t k p r q ln co),.row 76 6 n (λi=>eV (shG n g i)),.row 74 5 n (λi=>evV (evF n (shG n g) (λ_=>true) i)),.row 3 1 n (λi=>iV (rfF n (shG n g) (λ_=>true) i)),.jag (Jag.mk 24 1 (kkN n (shG n g)) Ab 0 3 1 (λ_=>true) (lnN (mbF (shG n g)) (wrF (shG n g)) n) (λk i=>iV (ofNat (coN (mbF (shG n g)) (wrF (shG n g)) n k i))) none),.cells [iV a,.ref 1,.ref 2,iV (ofNat (ttN n (shG n g))),iV (ofNat (kkN n (shG n g))),.ref 3,.jref 4]]=true) (h20:Be q (λi=>Be (ln i) (λ_=>true))=true) (h21:Be (kkN n (shG n g)) (λi=>Be (lnN (mbF (shG n g)) (wrF (shG n g)) n i) (λ_=>true))=true) (h22:Ao n=true) (h23:Ao m=true) (h24:Ao p=true) (h25:Ao q=true) (h26:Be q (λi=>Ao (ln i))=true) (h2:Aj (ieq a a) (Aj (ieq t (ofNat (ttN n (shG n g)))) (Aj (ieq k (ofNat (kkN n (shG n g)))) (Aj (DY n g n (λi=>shG n g i)) (Aj (ieq (ofNat m) (ofNat n)) (Aj (D3 p r n (rfF n (shG n g) (λ_=>true))) (Aj (Fz q ln (λi i_1=>co i i_1) (kkN n (shG n g)) (lnN (mbF (shG n g)) (wrF (shG n g)) n) (λi i_1=>ofNat (coN (mbF (shG n g)) (wrF (shG n g)) n i i_1))) (Be m (λk=>H3 (x k) (evF n (shG n g) (λ_=>true) k)))))))))=false):(Ax (Ak tab ⟨A0 Abw,L,Gl⟩ Tryz.f64 [.agg (shL a n g m x t k p r q ln co)] [])).sem=some ((iV 70),[]):=by
 exact Ad (ks:=[kn h0,kL n,kn h18,kn h1,kN (kI 0),kN (kI 0),kN (kI 0),kn h19,kL n,kL m,kL p,kn h20,kL n,kL n,kL n,kn h21,kA (kn h22) (kA (kn h23) (kA (kn h24) (kA (kn h25) (kn h26)))),kN (kI 0),kN (kI 0),kN (kn h2)]) (by kernel_rfl)
theorem Alc (h0:ilt 16 (ofNat n)=false) (h18:CJ n=true) (h1:ieq (Gw a n g) 0=true) (h19:BD [.cells (shL a n g m x t k p r q ln co),.row 76 6 n (λi=>eV (shG n g i)),.row 74 5 n (λi=>evV (evF n (shG n g) (λ_=>true) i)),.row 3 1 n (λi=>iV (rfF n (shG n g) (λ_=>true) i)),.jag (Jag.mk 24 1 (kkN n (shG n g)) Ab 0 3 1 (λ_=>true) (lnN (mbF (shG n g)) (wrF (shG n g)) n) (λk i=>iV (ofNat (coN (mbF (shG n g)) (wrF (shG n g)) n k i))) none),.cells [iV a,.ref 1,.ref 2,iV (ofNat (ttN n (shG n g))),iV (ofNat (kkN n (shG n g))),.ref 3,.jref 4]]=true) (h20:Be q (λi=>Be (ln i) (λ_=>true))=true) (h21:Be (kkN n (shG n g)) (λi=>Be (lnN (mbF (shG n g)) (wrF (shG n g)) n i) (λ_=>true))=true) (h22:Ao n=true) (h23:Ao m=true) (h24:Ao p=true) (h25:Ao q=true) (h26:Be q (λi=>Ao (ln i))=true) (h2:Aj (ieq a a) (Aj (ieq t (ofNat (ttN n (shG n g)))) (Aj (ieq k (ofNat (kkN n (shG n g)))) (Aj (DY n g n (λi=>shG n g i)) (Aj (ieq (ofNat m) (ofNat n)) (Aj (D3 p r n (rfF n (shG n g) (λ_=>true))) (Aj (Fz q ln (λi i_1=>co i i_1) (kkN n (shG n g)) (lnN (mbF (shG n g)) (wrF (shG n g)) n) (λi i_1=>ofNat (coN (mbF (shG n g)) (wrF (shG n g)) n i i_1))) (Be m (λk=>H3 (x k) (evF n (shG n g) (λ_=>true) k)))))))))=true):(Ax (Ak tab ⟨A0 Abw,L,Gl⟩ Tryz.f64 [.agg (shL a n g m x t k p r q ln co)] [])).sem=some ((iV 0),[]):=by
 exact Ad (ks:=[kn h0,kL n,kn h18,kn h1,kN (kI 0),kN (kI 0),kN (kI 0),kn h19,kL n,kL m,kL p,kn h20,kL n,kL n,kL n,kn h21,kA (kn h22) (kA (kn h23) (kA (kn h24) (kA (kn h25) (kn h26)))),kN (kI 0),kN (kI 0),kN (kn h2)]) (by kernel_rfl)
end
theorem p39:As Tryz.prog Gl 64 Jl:=by
 refine Am A8 mixed Tryz.func64 (by kernel_rfl) (by kernel_rfl) λvs v h' h=>?_;unfold Jl at h;split at h
 ·rename_i v1
  obtain ⟨s,a1,h⟩:=apS_some h;obtain ⟨hf,h⟩:=Ac h;obtain ⟨hn,h⟩:=Ac h;have:=Aa h;simp only [Prod.mk.injEq] at this;obtain ⟨rfl,rfl⟩:=this;obtain ⟨a,n,g,m,x,t,k,p,r,q,C⟩:=s;have hA:BC [v1] [.agg [iV a,.sl 6 n (λi=>eV (g i)),.sl 5 m (λi=>evV (x i)),iV t,iV k,.sl 1 p (λi=>iV (r i)),.sl 1 q (λu=>.sl 1 (C u).1 (λi=>iV ((C u).2 i)))]]:=λS w cs hv=>by
   obtain ⟨c,l,rfl,q1,q2⟩:=hv;exact ⟨c,_,rfl,a1 S w c q1,q2⟩
  have hn:Ao n=true∧Ao m=true∧Ao p=true∧Ao q=true∧(Be q λi=>Ao (C i).1)=true:=by simpa [IV,Aj] using hn
  obtain ⟨n1,n2,n3,n4,n5⟩:=hn;have hx:=Bi Abv [] (G:=Gl);refine ⟨_,Bd Gl Abw [],_,hA,rfl,hx.1,hx.2,?_,Aw.refl _⟩;have all2:∀ (q:Nat) (ln:Nat->Nat),(Be q λi=>Be (ln i) λ_=>true)=true:=λ_ _=>AE.2 λ_ _=>AE.2 λ_ _=>rfl;show _=some (iV (sel (Dn ⟨a,n,g,m,x,t,k,p,r,q,C⟩) 0 70),_);revert n5;generalize hln:(λi=>(C i).1)=ln;generalize hco:(λi=>(C i).2)=co;have e1:∀ u,(C u).1=ln u:=λu=>by rw [<- hln]
  have e2:∀ u,(C u).2=co u:=λu=>by rw [<- hco]
  have hC:C=λu=>(ln u,co u):=by
   funext u;rw [<- e1,<- e2]
  intro n5;simp only [e1,e2] at n5 ⊢;subst hC;cases h16:ilt 16 (ofNat n) with
  | true =>have hc:ieq (Gw a n g) 0=false:=Aa0 h16;rw [show Dn _=false from UX hc];exact Ad (ks:=[kn h16]) (by kernel_rfl)/-W:w39l-/
  | false =>
  cases hc:ieq (Gw a n g) 0 with
  | false =>rw [show Dn _=false from UX hc];exact Ad (ks:=[kn h16,kL n,kn hf,kn hc,kN (kn hc),kN (kn hc),kN (kn hc),kN (kn hc),kN (kn hc),kT]) (by kernel_rfl)/-W:w39e-/
  | true =>
   rw [show Dn _=_ from Js hc];cases hs:IK ⟨a,n,g,m,x,t,k,p,r,q,λu=>(ln u,co u)⟩ (ofS a n g) with
   | false=>exact Ald _ a n g m x t k p r q ln co h16 hf hc (by simp [BD]) (all2 _ _) (all2 _ _) n1 n2 n3 n4 n5 hs
   | true=>exact Alc _ a n g m x t k p r q ln co h16 hf hc (by simp [BD]) (all2 _ _) (all2 _ _) n1 n2 n3 n4 n5 hs
 ·cases h
end Go.Proofs.YtkbafjceglhjhaaGreatDoor.Sh
namespace Go.Proofs.YtkbafjceglhjhaaGreatDoor.Er
open Go.Sy Go Go.Proofs.YtkbafjceglhjhaaGreatDoor.Ed Go.Proofs.YtkbafjceglhjhaaGreatDoor.Sh
set_option maxRecDepth 100000
set_option maxHeartbeats 1000000
theorem bFA (b:Bool):(false && b)=false:=rfl
theorem bFO (b:Bool):(false || b)=b:=rfl
theorem bTA (b:Bool):(true && b)=b:=rfl
theorem bTO (b:Bool):(true || b)=true:=rfl
def shT (C:Sh7->A9):List V->A9
 | [v]=>apS v C
 | _=>.fail
theorem MD {k:FuncId} {fn:Func} (hf:Tryz.prog.funcs[k]? = some fn) (hb:fn.body.isSome=true) (hn:(fn.name == "runtime.NumGoroutine")=false) {Γ:Sh7->Cx} (hG:∀ s,(Γ s).glob=Gl) (hc:∀ s,Bl Tryz.prog (Γ s).base∧Ce (Γ s))
  {C:Sh7->A9} (h:∀ s r,(C s).sem=some r->(Ax (Ak tab (Γ s) fn [GQ s] [])).sem=some r):As Tryz.prog Gl k (shT C):=by
 refine Am A8 mixed hf hb hn λvs v h' hv=>?_;unfold shT at hv;split at hv
 ·obtain ⟨s,a1,hv⟩:=apS_some hv
  exact ⟨[GQ s],Γ s,h',λS w cs hq=>by
   obtain ⟨c,l,rfl,q1,q2⟩:=hq;exact ⟨c,_,rfl,a1 S w c q1,q2⟩,hG s,(hc s).1,(hc s).2,h s _ hv,Aw.refl _⟩
 ·cases hv
def Hu (n:Nat) (f:Nat->Int) (lc:Int):Int:=bif isN (AQ (λk=>ieq (f k) lc) n 0) then 0 else wr .i64 (Ah 7 (Int.ofNat (tO (λk=>ieq (f k) lc) n)))
def Adx:List V->A9
 | [.agg [v,.anym],.val (.int .i64 lc)]=>apI v λn f=>.br (Ao n) (.leaf (iV (Hu n f lc),[])) .fail
 | _=>.fail
def AjI:Lp:=⟨bmK 21 0 [1,2,4,8,9,10],1,bmK 21 0 [4],0,4611686018427387905⟩
def S61 (n:Nat) (f:Nat->Int) (lc:Int) (c:Int) (a:Unit) (j:Nat->V):St:=⟨jsV 21 0 j [(1,iV lc),(2,.ptr 0 0),(4,iV 0),(8,.sl 1 n (λk=>iV (f k))),(9,nV n),(10,iV c)],[.cells [.sl 1 n (λk=>iV (f k)),.anym]]⟩
noncomputable def B61 (L:LT):St->T (Ex×St):=λst=>AL tab ⟨A0 tb0,L,Gl⟩ (A3 Tryz.f61 0) 0 st
def AdD (n:Nat) (f:Nat->Int) (lc:Int) (i:Nat) (a:Unit):Ex×St:=(.rt,⟨jsV 21 0 Ab [(4,iV (wr .i64 (Ah 7 (Int.ofNat i))))],[]⟩)
def g61 (n:Nat) (f:Nat->Int) (lc:Int) (i:Nat) (a:Unit):T ((Unit) ⊕ (Ex×St)):=.br (ieq (f i) lc) (.leaf (.inr (AdD n f lc i a))) (.leaf (.inl ()))
def Akx (n:Nat) (f:Nat->Int) (lc:Int) (a:Unit):Ex×St:=(.ex 0,⟨jsV 21 0 Ab [(4,iV 0)],[]⟩)
theorem r61 (L:LT) (n:Nat) (f:Nat->Int) (lc:Int)  (hn:n <= 4611686018427387904) {e:Ex×St} {a:Unit} {j:Nat->V} (h:BV (g61 n f lc) (Akx n f lc) n 0 a=some e):(A4 (B61 L) AjI 4611686018427387905 (S61 n f lc 0 a j)).sem=some (exR e) :=
 AD Bq hn (λi a j r hi h=>DK.ok (L:=goR (S61 n f lc) exR i) (.k (ofNat_lt hi) <| .k (Ae hi) <| .c (λh1=>.k h1 <| .l) λh1=>.k h1 <| .l) (by kernel_rfl) h) (λa j=>DK.ok (C:=.leaf (Akx n f lc a)) (L:=exR) (.k (Au (Nat.le_refl n)) .l) (by kernel_rfl) rfl) (Nat.zero_add _).symm (Nat.lt_succ_of_le hn) h
def Acs:List (Nat×Lp×List (Nat×(Nat->V))):=[(0,AjI,[])]
theorem AeH (n:Nat) (f:Nat->Int) (lc:Int) (i:Nat) (_:i<n) (h:(λk=>ieq (f k) lc) i=false):(g61 n f lc i ()).sem=some (.inl ()):=by
 replace h:ieq (f i) lc=false:=h
 show sel (ieq (f i) lc) _ _=_;rw [h];rfl
theorem AeG (n:Nat) (f:Nat->Int) (lc:Int) (i:Nat) (_:i<n) (h:(λk=>ieq (f k) lc) i=true):(g61 n f lc i ()).sem=some (.inr (AdD n f lc i ())):=by
 replace h:ieq (f i) lc=true:=h
 show sel (ieq (f i) lc) _ _=_;rw [h];rfl
def C61 (n:Nat) (f:Nat->Int) (lc:Int):A9:=.br (isN (AQ (λk=>ieq (f k) lc) n 0)) (.leaf ((iV 0),[])) (.leaf ((iV (wr .i64 (Ah 7 (Int.ofNat (tO (λk=>ieq (f k) lc) n))))),[]))
theorem Ad7 (n:Nat) (f:Nat->Int) (lc:Int):(C61 n f lc).sem=some (iV (Hu n f lc),[]):=by
 unfold C61 Hu;cases isN (AQ (λk=>ieq (f k) lc) n 0) <;> rfl
theorem p61:As Tryz.prog Gl 61 Adx:=by
 refine Am A8 mixed Tryz.func61 (by kernel_rfl) (by kernel_rfl) λvs v h' h=>?_;unfold Adx at h;split at h
 ·rename_i u lc
  obtain ⟨n,f,ha,h⟩:=FB h;obtain ⟨hn,h⟩:=Ac h;have:=Aa h;simp only [Prod.mk.injEq] at this;obtain ⟨rfl,rfl⟩:=this;have w:DK (λa=>a) (C61 n f lc) _:=.c (λh1=>.a (r61 (Go.Sy.askL Acs) n f lc (Ci hn) (j:=λ_=>.und) (N8 (acc:=λ_=>()) (AeH n f lc) (AeG n f lc) h1)) <| .l) λh1=>.a (r61 (Go.Sy.askL Acs) n f lc (Ci hn) (j:=λ_=>.und) (N7 (acc:=λ_=>()) (AeH n f lc) (AeG n f lc) h1)) <| .l
  have hx:=Bs CN Acs (G:=Gl);exact ⟨_,cxA Gl tb0 Acs,_,(show BC [.agg [u,.anym],iV lc] [.agg [.sl 1 n (λk=>iV (f k)),.anym],iV lc] from λS w cs hv=>by
   obtain ⟨c,l,rfl,⟨ca,rfl,c1,l1,rfl,q1,q2⟩,q3⟩:=hv;exact ⟨_,l,rfl,⟨_,rfl,c1,_,rfl,ha S w c1 q1,q2⟩,q3⟩),rfl,hx.1,hx.2,DK.of (Ad7 n f lc) w (by kernel_rfl),Aw.refl _⟩
 ·cases h
noncomputable def Ai3:AM:=(60,Jl)::[]
theorem Abz:Ar Tryz.prog Gl Ai3:=.cons p25 .nil
noncomputable def Ai2:AM:=(64,Jl)::[]
theorem Abx:Ar Tryz.prog Gl Ai2:=.cons p39 .nil
def G2 (s:Sh7):Int:=bif Dn s then (bif ieq s.arch 2 then 0 else 5) else 70
def Rj (s:Sh7):A9:=.br (CJ s.ne) (.br (IV s) (.leaf (iV (G2 s),[])) .fail) .fail
def C33 (s:Sh7):A9:=.br (CJ s.ne) (.br (Aj (Ao s.ne) (Aj (Ao s.nx) (Aj (Ao s.nr) (Aj (Ao s.nc) (Be s.nc (λi=>Ao (s.C i).1)))))) (.br (ieq (sel (Dn s) 0 70) 0) (.br (ieq s.arch 2) (.leaf ((iV 0),[])) (.leaf ((iV 5),[]))) (.leaf ((iV 70),[]))) .fail) .fail
theorem AaW (s:Sh7) (r:V×List Blk) (h:(Rj s).sem=some r):(C33 s).sem=some r:=by
 obtain ⟨h1,h⟩:=Ac h;obtain ⟨h2,h⟩:=Ac h;have h2:Aj (Ao s.ne) (Aj (Ao s.nx) (Aj (Ao s.nr) (Aj (Ao s.nc) (Be s.nc (λi=>Ao (s.C i).1)))))=true:=h2;unfold C33;rw [h1,h2];rw [<- h];unfold G2;cases Dn s <;> cases ieq s.arch 2 <;> rfl
theorem p33:As Tryz.prog Gl 33 (shT Rj):=MD Tryz.func33 (by kernel_rfl) (by kernel_rfl) (Γ:=λ_=>cxA Gl Ai3 []) (λ_=>rfl) (λ_=>Bs Abz [])
 λs r h=>DK.of (AaW s r h) (.k (eL s.ne) <| .k (eL s.nx) <| .k (eL s.nr) <| .k (eL2 s.nc s.C) <| .g λh1=>.k h1 <| .g λh2=>.k h2 <| .c (λh3=>.k (eN h3) <| .c (λh4=>.k (eN h4) <| .l) λh4=>.k (eN h4) <| .l) λh3=>.k (eN h3) <| .l) (by kernel_rfl)
theorem p36:As Tryz.prog Gl 36 (shT Rj):=MD Tryz.func36 (by kernel_rfl) (by kernel_rfl) (Γ:=λ_=>cxA Gl Ai2 []) (λ_=>rfl) (λ_=>Bs Abx [])
 λs r h=>DK.of (AaW s r h) (.k (eL s.ne) <| .k (eL s.nx) <| .k (eL s.nr) <| .k (eL2 s.nc s.C) <| .g λh1=>.k h1 <| .g λh2=>.k h2 <| .c (λh3=>.k (eN h3) <| .c (λh4=>.k (eN h4) <| .l) λh4=>.k (eN h4) <| .l) λh3=>.k (eN h3) <| .l) (by kernel_rfl)
end Go.Proofs.YtkbafjceglhjhaaGreatDoor.Er
