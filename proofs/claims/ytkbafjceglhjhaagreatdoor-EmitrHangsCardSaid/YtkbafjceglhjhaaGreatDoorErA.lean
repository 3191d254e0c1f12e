/-
  Layer 7: whether shapes are the same, the program's (by slices.Equal). No conditions.
-/
import Derived.Test.YtkbafjceglhjhaaGreatDoorShI
import Derived.Test.YtkbafjceglhjhaaGreatDoorEdX
namespace Go.Proofs.YtkbafjceglhjhaaGreatDoor.Sh
open Go.Sy Ed
open Int (ofNat)
set_option maxHeartbeats 1000000
set_option maxRecDepth 4000
theorem AaA {n:Nat} {f:Nat->E6} {m:Nat} {g:Nat->E6} (h:ieq (ofNat n) (ofNat m)=false):DR n f m g=false:=by
 unfold DR;rw [h];rfl
theorem Zf {a b:E6}:eqE a b=true↔a=b:=by
 have h:=@Mm 1 (λ_=>a) 1 (λ_=>b);have e:DR 1 (λ_=>a) 1 (λ_=>b)=eqE a b:=by
  show sel (eqE a b) true false=_;cases eqE a b <;> rfl
 rw [e] at h;exact ⟨λhh=>(h.1 hh).2 0 (by omega),λhh=>h.2 ⟨rfl,λ_ _=>hh⟩⟩
theorem Aa9 {n:Nat} {f:Nat->E6} {m:Nat} {g:Nat->E6} (h:ieq (ofNat n) (ofNat m)=true):DR n f m g=Ba n λk=>eqE (f k) (g k):=by
 rw [Bool.eq_iff_iff,Mm,AG];exact ⟨λhh k hk=>Zf.2 (hh.2 k hk),λhh=>⟨BL h,λk hk=>Zf.1 (hh k hk)⟩⟩
def Ol (n:Nat) (f:Nat->Ev5) (m:Nat) (g:Nat->Ev5):Bool:=Aj (ieq (ofNat n) (ofNat m)) (Ba n λk=>Ho (f k) (g k))
def Tg:List V->AB
 | [v,u]=>apG codE v λn f=>apG codE u λm g=>.br (Ap n) (.leaf (bV (DR n f m g),[])) .fail
 | _=>.fail
def Tf:List V->AB
 | [v,u]=>apG Qn v λn f=>apG Qn u λm g=>.br (Ap n) (.leaf (bV (Ol n f m g),[])) .fail
 | _=>.fail
def Pn:List V->AB
 | [v,u,.fn 145 []]=>apG codJ v λn C=>apG codJ u λm D=>.br (Ap n) (.br (Ba n λi=>Ap (C i).1) (.leaf (bV (Fq n (λi=>(C i).1) (λi=>(C i).2) m (λi=>(D i).1) (λi=>(D i).2)),[])) .fail) .fail
 | _=>.fail
def Ahr:Lp:=⟨bmK 26 0 [0,1,4,12,13],0,bmK 26 0 [4],0,4611686018427387905⟩
def S89 (n:Nat) (f:Nat->E6) (m:Nat) (g:Nat->E6) (c:Int) (_:Unit) (j:Nat->V):St:=⟨jsV 26 0 j [(0,.sl 6 n (λi=>eV (f i))),(1,.sl 6 m (λi=>eV (g i))),(4,bV false),(12,nV n),(13,iV c)],[]⟩
noncomputable def B89 (L:LT):St->T (Ex×St):=λst=>AI tab ⟨Az tb0,L,Gl⟩ (A0 Tryz.f143 0) 0 st
def AfD (_:Nat) (_:Nat->E6) (_:Nat) (_:Nat->E6) (_:Nat) (_:Unit):Ex×St:=(.rt,⟨jsV 26 0 Ac [(4,bV false)],[]⟩)
def g89 (n:Nat) (f:Nat->E6) (m:Nat) (g:Nat->E6) (i:Nat) (a:Unit):T ((Unit) ⊕ (Ex×St)):=.br (eqE (f i) (g i)) (.leaf (.inl ())) (.leaf (.inr (AfD n f m g i a)))
def AhN (_:Nat) (_:Nat->E6) (_:Nat) (_:Nat->E6) (_:Unit):Ex×St:=(.ex 0,⟨jsV 26 0 Ac [(4,bV false)],[]⟩)
theorem r89 (L:LT) (n:Nat) (f:Nat->E6) (m:Nat) (g:Nat->E6) (hm:n=m) (hn:n <= 4611686018427387904) {e:Ex×St} {a:Unit} {j:Nat->V} (h:BQ (g89 n f m g) (AhN n f m g) n 0 a=some e):(A3 (B89 L) Ahr 4611686018427387905 (S89 n f m g 0 a j)).sem=some (exR e) :=
 AY BB hn (λi a j r hi h=>DK.ok (L:=goR (S89 n f m g) exR i) (.k (ofNat_lt hi) <| .k (Ae hi) <| .k (Ae (hm ▸ hi)) <| .c (λh1=>.k (eN h1) <| .l) λh1=>.k (eN h1) <| .l) (by kernel_rfl) h) (λa j=>DK.ok (C:=.leaf (AhN n f m g a)) (L:=exR) (.k (Av (Nat.le_refl n)) .l) (by kernel_rfl) rfl) (Nat.zero_add _).symm (Nat.lt_succ_of_le hn) h
def Abf:List (Nat×Lp×List (Nat×(Nat->V))):=[(0,Ahr,[])]
def C89 (n:Nat) (f:Nat->E6) (m:Nat) (g:Nat->E6):AB:=.br (ieq (ofNat n) (ofNat m)) (.br (Ba n λk=>eqE (f k) (g k)) (.leaf ((bV true),[])) (.leaf ((bV false),[]))) (.leaf ((bV false),[]))
theorem Aca (n:Nat) (f:Nat->E6) (m:Nat) (g:Nat->E6):(C89 n f m g).sem=some (bV (DR n f m g),[]):=by
 unfold C89;cases h:ieq (ofNat n) (ofNat m)
 ·rw [AaA h]; rfl
 rw [Aa9 h];cases Ba n λk=>eqE (f k) (g k) <;> rfl
theorem p103:As Tryz.prog Gl 143 Tg:=by
 refine Am AA mixed Tryz.func143 (by kernel_rfl) (by kernel_rfl) λvs v h' h=>?_;unfold Tg at h;split at h
 ·rename_i v1 u1
  obtain ⟨n,f,a1,h⟩:=BV h;obtain ⟨m,g,a2,h⟩:=BV h;obtain ⟨hn,h⟩:=Ab h;have:=Aa h;simp only [Prod.mk.injEq] at this;obtain ⟨rfl,rfl⟩:=this;have w:DK (λa=>a) (C89 n f m g) _:=.c (λh1=>.k (eN h1) <| .c (λh2=>.a (r89 (askL Abf) n f m g (BL h1) (Cb hn) (j:=λ_=>.und) (N8 (λ_ _=>rfl) h2)) <| .l) λh2=>.a (r89 (askL Abf) n f m g (BL h1) (Cb hn) (j:=λ_=>.und) (N9 (λ_ _=>rfl) h2)) <| .l) λh1=>.k (eN h1) <| .l
  have hx:=Bz D7 Abf (G:=Gl);exact ⟨_,cxA Gl tb0 Abf,_,(show BK [v1,u1] [H9 codE n f,H9 codE m g] from λS w cs hv=>by
   obtain ⟨c,l,rfl,q1,c',l',rfl,q2,q3⟩:=hv;exact ⟨c,_,rfl,a1 S w c q1,c',l',rfl,a2 S w c' q2,q3⟩),rfl,hx.1,hx.2,DK.of (Aca n f m g) w (by kernel_rfl),Aw.refl _⟩
 ·cases h
def Ahq:Lp:=⟨bmK 26 0 [0,1,4,12,13],0,bmK 26 0 [4],0,4611686018427387905⟩
def S90 (n:Nat) (f:Nat->Ev5) (m:Nat) (g:Nat->Ev5) (c:Int) (_:Unit) (j:Nat->V):St:=⟨jsV 26 0 j [(0,.sl 5 n (λi=>evV (f i))),(1,.sl 5 m (λi=>evV (g i))),(4,bV false),(12,nV n),(13,iV c)],[]⟩
noncomputable def B90 (L:LT):St->T (Ex×St):=λst=>AI tab ⟨Az tb0,L,Gl⟩ (A0 Tryz.f144 0) 0 st
def AfC (_:Nat) (_:Nat->Ev5) (_:Nat) (_:Nat->Ev5) (_:Nat) (_:Unit):Ex×St:=(.rt,⟨jsV 26 0 Ac [(4,bV false)],[]⟩)
def g90 (n:Nat) (f:Nat->Ev5) (m:Nat) (g:Nat->Ev5) (i:Nat) (a:Unit):T ((Unit) ⊕ (Ex×St)):=.br (Aj (ieq (f i).th (g i).th) (Aj (ieq (f i).pl (g i).pl) (Aj (ieq (f i).dir (g i).dir) (Aj (ieq (f i).loc (g i).loc) (Aj (ieq (f i).val (g i).val) true))))) (.leaf (.inl ())) (.leaf (.inr (AfC n f m g i a)))
def AhM (_:Nat) (_:Nat->Ev5) (_:Nat) (_:Nat->Ev5) (_:Unit):Ex×St:=(.ex 0,⟨jsV 26 0 Ac [(4,bV false)],[]⟩)
theorem r90 (L:LT) (n:Nat) (f:Nat->Ev5) (m:Nat) (g:Nat->Ev5) (hm:n=m) (hn:n <= 4611686018427387904) {e:Ex×St} {a:Unit} {j:Nat->V} (h:BQ (g90 n f m g) (AhM n f m g) n 0 a=some e):(A3 (B90 L) Ahq 4611686018427387905 (S90 n f m g 0 a j)).sem=some (exR e) :=
 AY BB hn (λi a j r hi h=>DK.ok (L:=goR (S90 n f m g) exR i) (.k (ofNat_lt hi) <| .k (Ae hi) <| .k (Ae (hm ▸ hi)) <| .c (λh1=>.k (eN h1) <| .l) λh1=>.k (eN h1) <| .l) (by kernel_rfl) h) (λa j=>DK.ok (C:=.leaf (AhM n f m g a)) (L:=exR) (.k (Av (Nat.le_refl n)) .l) (by kernel_rfl) rfl) (Nat.zero_add _).symm (Nat.lt_succ_of_le hn) h
def Abe:List (Nat×Lp×List (Nat×(Nat->V))):=[(0,Ahq,[])]
def C90 (n:Nat) (f:Nat->Ev5) (m:Nat) (g:Nat->Ev5):AB:=.br (ieq (ofNat n) (ofNat m)) (.br (Ba n λk=>Ho (f k) (g k)) (.leaf ((bV true),[])) (.leaf ((bV false),[]))) (.leaf ((bV false),[]))
theorem AbZ (n:Nat) (f:Nat->Ev5) (m:Nat) (g:Nat->Ev5):(C90 n f m g).sem=some (bV (Ol n f m g),[]):=by
 unfold C90;unfold Ol;cases ieq (ofNat n) (ofNat m)
 ·rfl
 cases Ba n λk=>Ho (f k) (g k) <;> rfl
theorem p104:As Tryz.prog Gl 144 Tf:=by
 refine Am AA mixed Tryz.func144 (by kernel_rfl) (by kernel_rfl) λvs v h' h=>?_;unfold Tf at h;split at h
 ·rename_i v1 u1
  obtain ⟨n,f,a1,h⟩:=BV h;obtain ⟨m,g,a2,h⟩:=BV h;obtain ⟨hn,h⟩:=Ab h;have:=Aa h;simp only [Prod.mk.injEq] at this;obtain ⟨rfl,rfl⟩:=this;have w:DK (λa=>a) (C90 n f m g) _:=.c (λh1=>.k (eN h1) <| .c (λh2=>.a (r90 (askL Abe) n f m g (BL h1) (Cb hn) (j:=λ_=>.und) (N8 (λ_ _=>rfl) h2)) <| .l) λh2=>.a (r90 (askL Abe) n f m g (BL h1) (Cb hn) (j:=λ_=>.und) (N9 (λ_ _=>rfl) h2)) <| .l) λh1=>.k (eN h1) <| .l
  have hx:=Bz D7 Abe (G:=Gl);exact ⟨_,cxA Gl tb0 Abe,_,(show BK [v1,u1] [H9 Qn n f,H9 Qn m g] from λS w cs hv=>by
   obtain ⟨c,l,rfl,q1,c',l',rfl,q2,q3⟩:=hv;exact ⟨c,_,rfl,a1 S w c q1,c',l',rfl,a2 S w c' q2,q3⟩),rfl,hx.1,hx.2,DK.of (AbZ n f m g) w (by kernel_rfl),Aw.refl _⟩
 ·cases h
def Ahp:Lp:=⟨bmK 26 0 [0,1,4,12,13],0,bmK 26 0 [4],0,4611686018427387905⟩
def S91 (n:Nat) (f:Nat->Int) (m:Nat) (g:Nat->Int) (c:Int) (_:Unit) (j:Nat->V):St:=⟨jsV 26 0 j [(0,.sl 1 n (λi=>iV (f i))),(1,.sl 1 m (λi=>iV (g i))),(4,bV false),(12,nV n),(13,iV c)],[]⟩
noncomputable def B91 (L:LT):St->T (Ex×St):=λst=>AI tab ⟨Az tb0,L,Gl⟩ (A0 Tryz.f145 0) 0 st
def AfB (_:Nat) (_:Nat->Int) (_:Nat) (_:Nat->Int) (_:Nat) (_:Unit):Ex×St:=(.rt,⟨jsV 26 0 Ac [(4,bV false)],[]⟩)
def g91 (n:Nat) (f:Nat->Int) (m:Nat) (g:Nat->Int) (i:Nat) (a:Unit):T ((Unit) ⊕ (Ex×St)):=.br (ieq (f i) (g i)) (.leaf (.inl ())) (.leaf (.inr (AfB n f m g i a)))
def AhL (_:Nat) (_:Nat->Int) (_:Nat) (_:Nat->Int) (_:Unit):Ex×St:=(.ex 0,⟨jsV 26 0 Ac [(4,bV false)],[]⟩)
theorem r91 (L:LT) (n:Nat) (f:Nat->Int) (m:Nat) (g:Nat->Int) (hm:n=m) (hn:n <= 4611686018427387904) {e:Ex×St} {a:Unit} {j:Nat->V} (h:BQ (g91 n f m g) (AhL n f m g) n 0 a=some e):(A3 (B91 L) Ahp 4611686018427387905 (S91 n f m g 0 a j)).sem=some (exR e) :=
 AY BB hn (λi a j r hi h=>DK.ok (L:=goR (S91 n f m g) exR i) (.k (ofNat_lt hi) <| .k (Ae hi) <| .k (Ae (hm ▸ hi)) <| .c (λh1=>.k (eN h1) <| .l) λh1=>.k (eN h1) <| .l) (by kernel_rfl) h) (λa j=>DK.ok (C:=.leaf (AhL n f m g a)) (L:=exR) (.k (Av (Nat.le_refl n)) .l) (by kernel_rfl) rfl) (Nat.zero_add _).symm (Nat.lt_succ_of_le hn) h
def Abd:List (Nat×Lp×List (Nat×(Nat->V))):=[(0,Ahp,[])]
def C91 (n:Nat) (f:Nat->Int) (m:Nat) (g:Nat->Int):AB:=.br (ieq (ofNat n) (ofNat m)) (.br (Ba n λk=>ieq (f k) (g k)) (.leaf ((bV true),[])) (.leaf ((bV false),[]))) (.leaf ((bV false),[]))
theorem AbY (n:Nat) (f:Nat->Int) (m:Nat) (g:Nat->Int):(C91 n f m g).sem=some (bV (Dw n f m g),[]):=by
 unfold C91;unfold Dw;cases ieq (ofNat n) (ofNat m)
 ·rfl
 cases Ba n λk=>ieq (f k) (g k) <;> rfl
theorem AgX:As Tryz.prog Gl 145 H6:=by
 refine Am AA mixed Tryz.func145 (by kernel_rfl) (by kernel_rfl) λvs v h' h=>?_;unfold H6 at h;split at h
 ·rename_i v1 u1
  obtain ⟨n,f,a1,h⟩:=BV h;obtain ⟨m,g,a2,h⟩:=BV h;obtain ⟨hn,h⟩:=Ab h;have:=Aa h;simp only [Prod.mk.injEq] at this;obtain ⟨rfl,rfl⟩:=this;have w:DK (λa=>a) (C91 n f m g) _:=.c (λh1=>.k (eN h1) <| .c (λh2=>.a (r91 (askL Abd) n f m g (BL h1) (Cb hn) (j:=λ_=>.und) (N8 (λ_ _=>rfl) h2)) <| .l) λh2=>.a (r91 (askL Abd) n f m g (BL h1) (Cb hn) (j:=λ_=>.und) (N9 (λ_ _=>rfl) h2)) <| .l) λh1=>.k (eN h1) <| .l
  have hx:=Bz D7 Abd (G:=Gl);exact ⟨_,cxA Gl tb0 Abd,_,(show BK [v1,u1] [H9 Qo n f,H9 Qo m g] from λS w cs hv=>by
   obtain ⟨c,l,rfl,q1,c',l',rfl,q2,q3⟩:=hv;exact ⟨c,_,rfl,a1 S w c q1,c',l',rfl,a2 S w c' q2,q3⟩),rfl,hx.1,hx.2,DK.of (AbY n f m g) w (by kernel_rfl),Aw.refl _⟩
 ·cases h
noncomputable def tb106:AK:=(145,H6)::[]
theorem tb106_ok:Ar Tryz.prog Gl tb106:=.cons AgX .nil
def AcH:Lp:=⟨bmK 32 0 [0,1,2,6,15,16,17],0,bmK 32 0 [6],0,4611686018427387905⟩
def Ain (n:Nat) (C:Nat->Nat×(Nat->Int)) (m:Nat) (D:Nat->Nat×(Nat->Int)) (c:Int) (_:Unit) (j:Nat->V):St:=⟨jsV 32 0 j [(0,.sl 1 n (λu=>.sl 1 (C u).1 (λi=>iV ((C u).2 i)))),(1,.sl 1 m (λu=>.sl 1 (D u).1 (λi=>iV ((D u).2 i)))),(2,.fn 145 []),(6,bV false),(15,.sl 1 n (λu=>.sl 1 (C u).1 (λi=>iV ((C u).2 i)))),(16,nV n),(17,iV c)],[]⟩
noncomputable def Aju (L:LT):St->T (Ex×St):=λst=>AI tab ⟨Az tb106,L,Gl⟩ (A0 Tryz.f146 0) 0 st
def Adt (_:Nat) (_:Nat->Nat×(Nat->Int)) (_:Nat) (_:Nat->Nat×(Nat->Int)) (_:Nat) (_:Unit):Ex×St:=(.rt,⟨jsV 32 0 Ac [(6,bV false)],[]⟩)
def AiW (n:Nat) (C:Nat->Nat×(Nat->Int)) (m:Nat) (D:Nat->Nat×(Nat->Int)) (i:Nat) (a:Unit):T ((Unit) ⊕ (Ex×St)):=.br (Dw (C i).1 (C i).2 (D i).1 (D i).2) (.leaf (.inl ())) (.leaf (.inr (Adt n C m D i a)))
def Adb (_:Nat) (_:Nat->Nat×(Nat->Int)) (_:Nat) (_:Nat->Nat×(Nat->Int)) (_:Unit):Ex×St:=(.ex 0,⟨jsV 32 0 Ac [(6,bV false)],[]⟩)
theorem AgM (L:LT) (n:Nat) (C:Nat->Nat×(Nat->Int)) (m:Nat) (D:Nat->Nat×(Nat->Int)) (hm:n=m) (hs:(Ba n λk=>Ap (C k).1)=true) (hn:n <= 4611686018427387904) {e:Ex×St} {a:Unit} {j:Nat->V} (h:BQ (AiW n C m D) (Adb n C m D) n 0 a=some e):(A3 (Aju L) AcH 4611686018427387905 (Ain n C m D 0 a j)).sem=some (exR e) :=
 AY BB hn (λi a j r hi h=>DK.ok (L:=goR (Ain n C m D) exR i) (.k (ofNat_lt hi) <| .k (Ae hi) <| .k (Ae (hm ▸ hi)) <| .k (eL (C i).1) <| .k (eL (D i).1) <| .k (AG.1 hs i hi) <| .c (λh1=>.k (eN h1) <| .l) λh1=>.k (eN h1) <| .l) (by kernel_rfl) h) (λa j=>DK.ok (C:=.leaf (Adb n C m D a)) (L:=exR) (.k (Av (Nat.le_refl n)) .l) (by kernel_rfl) rfl) (Nat.zero_add _).symm (Nat.lt_succ_of_le hn) h
def UX:List (Nat×Lp×List (Nat×(Nat->V))):=[(0,AcH,[])]
def Af8 (n:Nat) (C:Nat->Nat×(Nat->Int)) (m:Nat) (D:Nat->Nat×(Nat->Int)):AB:=.br (ieq (ofNat n) (ofNat m)) (.br (Ba n λk=>Dw (C k).1 (C k).2 (D k).1 (D k).2) (.leaf ((bV true),[])) (.leaf ((bV false),[]))) (.leaf ((bV false),[]))
theorem ZO (n:Nat) (C:Nat->Nat×(Nat->Int)) (m:Nat) (D:Nat->Nat×(Nat->Int)):(Af8 n C m D).sem=some (bV (Fq n (λi=>(C i).1) (λi=>(C i).2) m (λi=>(D i).1) (λi=>(D i).2)),[]):=by
 unfold Af8 Fq;cases ieq (ofNat n) (ofNat m)
 ·rfl
 cases Ba n λk=>Dw (C k).1 (C k).2 (D k).1 (D k).2 <;> rfl
theorem AiL:As Tryz.prog Gl 146 Pn:=by
 refine Am AA mixed Tryz.func146 (by kernel_rfl) (by kernel_rfl) λvs v h' h=>?_;unfold Pn at h;split at h
 ·rename_i v1 u1
  obtain ⟨n,C,a1,h⟩:=BV h;obtain ⟨m,D,a2,h⟩:=BV h;obtain ⟨hn,h⟩:=Ab h;obtain ⟨hs,h⟩:=Ab h;have:=Aa h;simp only [Prod.mk.injEq] at this;obtain ⟨rfl,rfl⟩:=this;have w:DK (λa=>a) (Af8 n C m D) _:=.c (λh1=>.k (eN h1) <| .c (λh2=>.a (AgM (askL UX) n C m D (BL h1) hs (Cb hn) (j:=λ_=>.und) (N8 (λ_ _=>rfl) h2)) <| .l) λh2=>.a (AgM (askL UX) n C m D (BL h1) hs (Cb hn) (j:=λ_=>.und) (N9 (λ_ _=>rfl) h2)) <| .l) λh1=>.k (eN h1) <| .l
  have hx:=Bz tb106_ok UX (G:=Gl);exact ⟨_,cxA Gl tb106 UX,_,(show BK [v1,u1,.fn 145 []] [.sl 1 n (λu=>.sl 1 (C u).1 (λi=>iV ((C u).2 i))),.sl 1 m (λu=>.sl 1 (D u).1 (λi=>iV ((D u).2 i))),.fn 145 []] from λS w cs hv=>by
   obtain ⟨c,l,rfl,q1,c',l',rfl,q2,q3⟩:=hv;exact ⟨c,_,rfl,a1 S w c q1,c',l',rfl,a2 S w c' q2,q3⟩),rfl,hx.1,hx.2,DK.of (ZO n C m D) w (by kernel_rfl),Aw.refl _⟩
 ·cases h
noncomputable def Agi:AK:=(143,Tg)::(144,Tf)::(145,H6)::(146,Pn)::[]
theorem Aad:Ar Tryz.prog Gl Agi:=.cons p103 <| .cons p104 <| .cons AgX <| .cons AiL .nil
theorem Aa8 (a b c d e i j k:Bool):Aj a (Aj b (Aj c (Aj d (Aj e (Aj i (Aj j k))))))=Aj a (Aj b (Aj c (Aj d (Aj (Aj e k) (Aj i (Aj j true)))))):=by
 cases a <;> cases b <;> cases c <;> cases d <;> cases e <;> cases i <;> cases j <;> cases k <;> rfl
def C58 (s s':Sh7):AB:=.br (ieq s.arch s'.arch) (.br (ieq s.tt s'.tt) (.br (ieq s.kk s'.kk) (.br (DR s.ne (λi=>s.E i) s'.ne (λi=>s'.E i)) (.br (Ol s.nx (λi=>s.X i) s'.nx (λi=>s'.X i)) (.br (Dw s.nr s.R s'.nr s'.R) (.leaf ((bV (Fq s.nc (λi=>(s.C i).1) (λi i_1=>(s.C i).2 i_1) s'.nc (λi=>(s'.C i).1) (λi i_1=>(s'.C i).2 i_1))),[])) (.leaf ((bV false),[]))) (.leaf ((bV false),[]))) (.leaf ((bV false),[]))) (.leaf ((bV false),[]))) (.leaf ((bV false),[]))) (.leaf ((bV false),[]))
theorem Ace (s s':Sh7):(C58 s s').sem=some (bV (Jx s s'),[]):=by
 unfold C58 Jx;rw [Aa8];show _=some (bV (Aj _ (Aj _ (Aj _ (Aj _ (Aj (Ol s.nx s.X s'.nx s'.X) _))))),[]);cases ieq s.arch s'.arch
 ·rfl
 cases ieq s.tt s'.tt
 ·rfl
 cases ieq s.kk s'.kk
 ·rfl
 cases DR s.ne s.E s'.ne s'.E
 ·rfl
 cases Ol s.nx s.X s'.nx s'.X
 ·rfl
 cases Dw s.nr s.R s'.nr s'.R
 ·rfl
 cases Fq s.nc (λi=>(s.C i).1) (λi=>(s.C i).2) s'.nc (λi=>(s'.C i).1) (λi=>(s'.C i).2) <;> rfl
theorem p72:As Tryz.prog Gl 100 IJ:=by
 refine Am AA mixed Tryz.func100 (by kernel_rfl) (by kernel_rfl) λvs v h' h=>?_;unfold IJ at h;split at h
 ·rename_i v1 u1
  obtain ⟨s,a1,h⟩:=apS_some h;obtain ⟨s',a2,h⟩:=apS_some h;obtain ⟨hn,h⟩:=Ab h;have:=Aa h;simp only [Prod.mk.injEq] at this;obtain ⟨rfl,rfl⟩:=this;have hn:Ap s.ne=true∧Ap s.nx=true∧Ap s.nr=true∧Ap s.nc=true∧(Ba s.nc λi=>Ap (s.C i).1)=true:=by simpa [IH,Aj] using hn
  obtain ⟨n1,n2,n3,n4,n5⟩:=hn;have w:DK (λa=>a) (C58 s s') _:=.c (λh1=>.r 6 h1 <| .c (λh2=>.r 6 h2 <| .c (λh3=>.r 5 h3 <| .k (eL s.ne) <| .k (eL s'.ne) <| .k n1 <| .k h3 <| .c (λh4=>.r 5 h4 <| .k (eL s.nx) <| .k (eL s'.nx) <| .k n2 <| .k h4 <| .c (λh5=>.r 5 h5 <| .k (eL s.nr) <| .k (eL s'.nr) <| .k n3 <| .k h5 <| .c (λh6=>.r 5 h6 <| .k (eL2 s.nc s.C) <| .k (eL2 s'.nc s'.C) <| .k n4 <| .k n5 <| .k h6 <| .l) λh6=>.r 6 h6 <| .l) λh5=>.r 6 h5 <| .r 6 eF <| .l) λh4=>.r 6 h4 <| .r 12 eF <| .l) λh3=>.r 6 h3 <| .r 18 eF <| .l) λh2=>.r 6 h2 <| .r 24 eF <| .l) λh1=>.r 6 h1 <| .r 30 eF <| .l
  have hx:=Bz Aad [] (G:=Gl);exact ⟨_,cxA Gl Agi [],_,(show BK [v1,u1] [GF s,GF s'] from λS w cs hv=>by
   obtain ⟨c,l,rfl,q1,c',l',rfl,q2,q3⟩:=hv;exact ⟨c,_,rfl,a1 S w c q1,c',l',rfl,a2 S w c' q2,q3⟩),rfl,hx.1,hx.2,DK.of (Ace s s') w (by kernel_rfl),Aw.refl _⟩
 ·cases h
end Go.Proofs.YtkbafjceglhjhaaGreatDoor.Sh
namespace Go.Proofs.YtkbafjceglhjhaaGreatDoor.Sh
open Go.Sy Ed
open Int (ofNat)
set_option maxHeartbeats 1000000
set_option maxRecDepth 4000
def ofS (a:Int) (n:Nat) (f:Nat->E6):Sh7:=⟨a,n,shG n f,n,evF n (shG n f) (λ_=>true),ofNat (ttN n (shG n f)),ofNat (kkN n (shG n f)),n,rfF n (shG n f) (λ_=>true),kkN n (shG n f),
 λk=>(lnN (mbF (shG n f)) (wrF (shG n f)) n k,λi=>ofNat (coN (mbF (shG n f)) (wrF (shG n f)) n k i))⟩
def Eh (s:Sh7):Bool:=Aj (ieq (Gn s.arch s.ne s.E) 0) (Jx s (ofS s.arch s.ne s.E))
def IW:List V->AB
 | [v]=>apS v λs=>.br (CJ s.ne) (.br (IH s) (.leaf (iV (sel (Eh s) 0 70),[])) .fail) .fail
 | _=>.fail
theorem Z0 {a:Int} {n:Nat} {f:Nat->E6} (h:ilt 16 (ofNat n)=true):ieq (Gn a n f) 0=false:=by
 cases hc:ieq (Gn a n f) 0 with
 | false=>rfl
 | true =>have:=(Bj hc).hi;rw [show (16:Int)=ofNat 16 from rfl,Dp] at h;have:=of_decide_eq_true h;omega
noncomputable def Aas:AK:=(99,ofT)::(100,IJ)::[]
theorem Aar:Ar Tryz.prog Gl Aas:=.cons p14 <| .cons p72 .nil
noncomputable def Aan:AK:=(68,ofT)::(102,IJ)::[]
theorem Aam:Ar Tryz.prog Gl Aan:=.cons p15 <| .cons p16 .nil
section
variable (L:LT) (a:Int) (n:Nat) (g:Nat->E6) (m:Nat) (x:Nat->Ev5) (t k:Int) (p:Nat) (r:Nat->Int) (q:Nat) (ln:Nat->Nat) (co:Nat->Nat->Int)
include L a n g m x t k p r q ln co
theorem Ai4 (h17:CJ n=true) (h0:ieq (Gn a n g) 0=true) (h18:By [.cells (shL a n g m x t k p r q ln co),.row 76 6 n (λi=>eV (shG n g i)),.row 74 5 n (λi=>evV (evF n (shG n g) (λ_=>true) i)),.row 3 1 n (λi=>iV (rfF n (shG n g) (λ_=>true) i)),.jag (Jag.mk 24 1 (kkN n (shG n g)) Ac 0 3 1 (λ_=>true) (lnN (mbF (shG n g)) (wrF (shG n g)) n) (λk i=>iV (ofNat (coN (mbF (shG n g)) (wrF (shG n g)) n k i))) none),.cells [iV a,.ref 1,.ref 2,iV (ofNat (ttN n (shG n g))),iV (ofNat (kkN n (shG n g))),.ref 3,.jref 4]]=true) (h19:Ba q (λi=>Ba (ln i) (λ_=>true))=true) (h20:Ba (kkN n (shG n g)) (λi=>Ba (lnN (mbF (shG n g)) (wrF (shG n g)) n i) (λ_=>true))=true) (h21:Ap n=true) (h22:Ap m=true) (h23:Ap p=true) (h24:Ap q=true) (h25:Ba q (λi=>Ap (ln i))=true) (h1:Aj (ieq a a) (Aj (ieq t (ofNat (ttN n (shG n g)))) (Aj (ieq k (ofNat (kkN n (shG n g)))) (Aj (DR n g n (λi=>shG n g i)) (Aj (ieq (ofNat m) (ofNat n)) (Aj (Dw p r n (rfF n (shG n g) (λ_=>true))) (Aj (Fq q ln (λi i_1=>co i i_1) (kkN n (shG n g)) (lnN (mbF (shG n g)) (wrF (shG n g)) n) (λi i_1=>ofNat (coN (mbF (shG n g)) (wrF (shG n g)) n i i_1))) (Ba m (λk=>Ho (x k) (evF n (shG n g) (λ_=>true) k)))))))))=false):(A7 (An tab ⟨Az Aas,L,Gl⟩ Tryz.f60 [.agg (shL a n g m x t k p r q ln co)] [])).sem=some ((iV 70),[]):=by
 exact Ad (ks:=[kL n,kn h17,kn h0,kN (kI 0),kN (kI 0),kN (kI 0),kn h18,kL n,kL m,kL p,kn h19,kL n,kL n,kL n,kn h20,kA (kn h21) (kA (kn h22) (kA (kn h23) (kA (kn h24) (kn h25)))),kN (kI 0),kN (kI 0),kN (kn h1)]) (by kernel_rfl)
theorem Ai3 (h17:CJ n=true) (h0:ieq (Gn a n g) 0=true) (h18:By [.cells (shL a n g m x t k p r q ln co),.row 76 6 n (λi=>eV (shG n g i)),.row 74 5 n (λi=>evV (evF n (shG n g) (λ_=>true) i)),.row 3 1 n (λi=>iV (rfF n (shG n g) (λ_=>true) i)),.jag (Jag.mk 24 1 (kkN n (shG n g)) Ac 0 3 1 (λ_=>true) (lnN (mbF (shG n g)) (wrF (shG n g)) n) (λk i=>iV (ofNat (coN (mbF (shG n g)) (wrF (shG n g)) n k i))) none),.cells [iV a,.ref 1,.ref 2,iV (ofNat (ttN n (shG n g))),iV (ofNat (kkN n (shG n g))),.ref 3,.jref 4]]=true) (h19:Ba q (λi=>Ba (ln i) (λ_=>true))=true) (h20:Ba (kkN n (shG n g)) (λi=>Ba (lnN (mbF (shG n g)) (wrF (shG n g)) n i) (λ_=>true))=true) (h21:Ap n=true) (h22:Ap m=true) (h23:Ap p=true) (h24:Ap q=true) (h25:Ba q (λi=>Ap (ln i))=true) (h1:Aj (ieq a a) (Aj (ieq t (ofNat (ttN n (shG n g)))) (Aj (ieq k (ofNat (kkN n (shG n g)))) (Aj (DR n g n (λi=>shG n g i)) (Aj (ieq (ofNat m) (ofNat n)) (Aj (Dw p r n (rfF n (shG n g) (λ_=>true))) (Aj (Fq q ln (λi i_1=>co i i_1) (kkN n (shG n g)) (lnN (mbF (shG n g)) (wrF (shG n g)) n) (λi i_1=>ofNat (coN (mbF (shG n g)) (wrF (shG n g)) n i i_1))) (Ba m (λk=>Ho (x k) (evF n (shG n g) (λ_=>true) k)))))))))=true):(A7 (An tab ⟨Az Aas,L,Gl⟩ Tryz.f60 [.agg (shL a n g m x t k p r q ln co)] [])).sem=some ((iV 0),[]):=by
 exact Ad (ks:=[kL n,kn h17,kn h0,kN (kI 0),kN (kI 0),kN (kI 0),kn h18,kL n,kL m,kL p,kn h19,kL n,kL n,kL n,kn h20,kA (kn h21) (kA (kn h22) (kA (kn h23) (kA (kn h24) (kn h25)))),kN (kI 0),kN (kI 0),kN (kn h1)]) (by kernel_rfl)
end
theorem p25:As Tryz.prog Gl 60 IW:=by
 refine Am AA mixed Tryz.func60 (by kernel_rfl) (by kernel_rfl) λvs v h' h=>?_;unfold IW at h;split at h
 ·rename_i v1
  obtain ⟨s,a1,h⟩:=apS_some h;obtain ⟨hf,h⟩:=Ab h;obtain ⟨hn,h⟩:=Ab h;have:=Aa h;simp only [Prod.mk.injEq] at this;obtain ⟨rfl,rfl⟩:=this;obtain ⟨a,n,g,m,x,t,k,p,r,q,C⟩:=s;have hA:BK [v1] [.agg [iV a,.sl 6 n (λi=>eV (g i)),.sl 5 m (λi=>evV (x i)),iV t,iV k,.sl 1 p (λi=>iV (r i)),.sl 1 q (λu=>.sl 1 (C u).1 (λi=>iV ((C u).2 i)))]]:=λS w cs hv=>by
   obtain ⟨c,l,rfl,q1,q2⟩:=hv;exact ⟨c,_,rfl,a1 S w c q1,q2⟩
  have hn:Ap n=true∧Ap m=true∧Ap p=true∧Ap q=true∧(Ba q λi=>Ap (C i).1)=true:=by simpa [IH,Aj] using hn
  obtain ⟨n1,n2,n3,n4,n5⟩:=hn;have hx:=Bh Aar [] (G:=Gl);refine ⟨_,Br Gl Aas [],_,hA,rfl,hx.1,hx.2,?_,Aw.refl _⟩;have all2:∀ (q:Nat) (ln:Nat->Nat),(Ba q λi=>Ba (ln i) λ_=>true)=true:=λ_ _=>AG.2 λ_ _=>AG.2 λ_ _=>rfl;show _=some (iV (sel (Eh ⟨a,n,g,m,x,t,k,p,r,q,C⟩) 0 70),_);revert n5;generalize hln:(λi=>(C i).1)=ln;generalize hco:(λi=>(C i).2)=co;have e1:∀ u,(C u).1=ln u:=λu=>by rw [<- hln]
  have e2:∀ u,(C u).2=co u:=λu=>by rw [<- hco]
  have hC:C=λu=>(ln u,co u):=by
   funext u;rw [<- e1,<- e2]
  intro n5;simp only [e1,e2] at n5 ⊢;subst hC;cases hc:ieq (Gn a n g) 0 with
  | false =>rw [show Eh _=false from Uw hc];exact Ad (ks:=[kL n,kn hf,kn hc,kN (kn hc),kN (kn hc),kN (kn hc),kN (kn hc),kN (kn hc),kT]) (by kernel_rfl)/-W:w25e-/
  | true =>
   rw [show Eh _=_ from Jb hc];cases hs:Jx ⟨a,n,g,m,x,t,k,p,r,q,λu=>(ln u,co u)⟩ (ofS a n g) with
   | false=>exact Ai4 _ a n g m x t k p r q ln co hf hc (by simp [By]) (all2 _ _) (all2 _ _) n1 n2 n3 n4 n5 hs
   | true=>exact Ai3 _ a n g m x t k p r q ln co hf hc (by simp [By]) (all2 _ _) (all2 _ _) n1 n2 n3 n4 n5 hs
 ·cases h
section
variable (L:LT) (a:Int) (n:Nat) (g:Nat->E6) (m:Nat) (x:Nat->Ev5) (t k:Int) (p:Nat) (r:Nat->Int) (q:Nat) (ln:Nat->Nat) (co:Nat->Nat->Int)
include L a n g m x t k p r q ln co
theorem Ai2 (h0:ilt 16 (ofNat n)=false) (h18:CJ n=true) (h1:ieq (Gn a n g) 0=true) (h19:By [.cells (shL a n g m x t k p r q ln co),.row 76 6 n (λi=>eV (shG n g i)),.row 74 5 n (λi=>evV (evF n (shG n g) (λ_=>true) i)),.row 3 1 n (λi=>iV (rfF n (shG n g) (λ_=>true) i)),.jag (Jag.mk 24 1 (kkN n (shG n g)) Ac 0 3 1 (λ_=>true) (lnN (mbF (shG n g)) (wrF (shG n g)) n) (λk i=>iV (ofNat (coN (mbF (shG n g)) (wrF (shG n g)) n k i))) none),.cells [iV a,.ref 1,.ref 2,iV (ofNat (ttN n (shG n g))),iV (ofNat (kkN n (shG n g))),.ref 3,.jref 4]]=true) (h20:Ba q (λi=>Ba (ln i) (λ_=>true))=true) (h21:Ba (kkN n (shG n g)) (λi=>Ba (lnN (mbF (shG n g)) (wrF (shG n g)) n i) (λ_=>true))=true) (h22:Ap n=true) (h23:Ap m=true) (h24:Ap p=true) (h25:Ap q=true) (h26:Ba q (λi=>Ap (ln i))=true) (h2:Aj (ieq a a) (Aj (ieq t (ofNat (ttN n (shG n g)))) (Aj (ieq k (ofNat (kkN n (shG n g)))) (Aj (DR n g n (λi=>shG n g i)) (Aj (ieq (ofNat m) (ofNat n)) (Aj (Dw p r n (rfF n (shG n g) (λ_=>true))) (Aj (Fq q ln (λi i_1=>co i i_1) (kkN n (shG n g)) (lnN (mbF (shG n g)) (wrF (shG n g)) n) (λi i_1=>ofNat (coN (mbF (shG n g)) (wrF (shG n g)) n i i_1))) (Ba m (λk=>Ho (x k) (evF n (shG n g) (λ_=>true) k)))))))))=false):(A7 (An tab ⟨Az Aan,L,Gl⟩ Tryz.f64 [.agg (shL a n g m x t k p r q ln co)] [])).sem=some ((iV 70),[]):=by
 exact Ad (ks:=[kn h0,kL n,kn h18,kn h1,kN (kI 0),kN (kI 0),kN (kI 0),kn h19,kL n,kL m,kL p,kn h20,kL n,kL n,kL n,kn h21,kA (kn h22) (kA (kn h23) (kA (kn h24) (kA (kn h25) (kn h26)))),kN (kI 0),kN (kI 0),kN (kn h2)]) (by kernel_rfl)
theorem Ai1 (h0:ilt 16 (ofNat n)=false) (h18:CJ n=true) (h1:ieq (Gn a n g) 0=true) (h19:By [.cells (shL a n g m x t k p r q ln co),.row 76 6 n (λi=>eV (shG n g i)),.row 74 5 n (λi=>evV (evF n (shG n g) (λ_=>true) i)),.row 3 1 n (λi=>iV (rfF n (shG n g) (λ_=>true) i)),.jag (Jag.mk 24 1 (kkN n (shG n g)) Ac 0 3 1 (λ_=>true) (lnN (mbF (shG n g)) (wrF (shG n g)) n) (λk i=>iV (ofNat (coN (mbF (shG n g)) (wrF (shG n g)) n k i))) none),.cells [iV a,.ref 1,.ref 2,iV (ofNat (ttN n (shG n g))),iV (ofNat (kkN n (shG n g))),.ref 3,.jref 4]]=true) (h20:Ba q (λi=>Ba (ln i) (λ_=>true))=true) (h21:Ba (kkN n (shG n g)) (λi=>Ba (lnN (mbF (shG n g)) (wrF (shG n g)) n i) (λ_=>true))=true) (h22:Ap n=true) (h23:Ap m=true) (h24:Ap p=true) (h25:Ap q=true) (h26:Ba q (λi=>Ap (ln i))=true) (h2:Aj (ieq a a) (Aj (ieq t (ofNat (ttN n (shG n g)))) (Aj (ieq k (ofNat (kkN n (shG n g)))) (Aj (DR n g n (λi=>shG n g i)) (Aj (ieq (ofNat m) (ofNat n)) (Aj (Dw p r n (rfF n (shG n g) (λ_=>true))) (Aj (Fq q ln (λi i_1=>co i i_1) (kkN n (shG n g)) (lnN (mbF (shG n g)) (wrF (shG n g)) n) (λi i_1=>ofNat (coN (mbF (shG n g)) (wrF (shG n g)) n i i_1))) (Ba m (λk=>Ho (x k) (evF n (shG n g) (λ_=>true) k)))))))))=true):(A7 (An tab ⟨Az Aan,L,Gl⟩ Tryz.f64 [.agg (shL a n g m x t k p r q ln co)] [])).sem=some ((iV 0),[]):=by
 exact Ad (ks:=[kn h0,kL n,kn h18,kn h1,kN (kI 0),kN (kI 0),kN (kI 0),kn h19,kL n,kL m,kL p,kn h20,kL n,kL n,kL n,kn h21,kA (kn h22) (kA (kn h23) (kA (kn h24) (kA (kn h25) (kn h26)))),kN (kI 0),kN (kI 0),kN (kn h2)]) (by kernel_rfl)
end
theorem p39:As Tryz.prog Gl 64 IW:=by
 refine Am AA mixed Tryz.func64 (by kernel_rfl) (by kernel_rfl) λvs v h' h=>?_;unfold IW at h;split at h
 ·rename_i v1
  obtain ⟨s,a1,h⟩:=apS_some h;obtain ⟨hf,h⟩:=Ab h;obtain ⟨hn,h⟩:=Ab h;have:=Aa h;simp only [Prod.mk.injEq] at this;obtain ⟨rfl,rfl⟩:=this;obtain ⟨a,n,g,m,x,t,k,p,r,q,C⟩:=s;have hA:BK [v1] [.agg [iV a,.sl 6 n (λi=>eV (g i)),.sl 5 m (λi=>evV (x i)),iV t,iV k,.sl 1 p (λi=>iV (r i)),.sl 1 q (λu=>.sl 1 (C u).1 (λi=>iV ((C u).2 i)))]]:=λS w cs hv=>by
   obtain ⟨c,l,rfl,q1,q2⟩:=hv;exact ⟨c,_,rfl,a1 S w c q1,q2⟩
  have hn:Ap n=true∧Ap m=true∧Ap p=true∧Ap q=true∧(Ba q λi=>Ap (C i).1)=true:=by simpa [IH,Aj] using hn
  obtain ⟨n1,n2,n3,n4,n5⟩:=hn;have hx:=Bh Aam [] (G:=Gl);refine ⟨_,Br Gl Aan [],_,hA,rfl,hx.1,hx.2,?_,Aw.refl _⟩;have all2:∀ (q:Nat) (ln:Nat->Nat),(Ba q λi=>Ba (ln i) λ_=>true)=true:=λ_ _=>AG.2 λ_ _=>AG.2 λ_ _=>rfl;show _=some (iV (sel (Eh ⟨a,n,g,m,x,t,k,p,r,q,C⟩) 0 70),_);revert n5;generalize hln:(λi=>(C i).1)=ln;generalize hco:(λi=>(C i).2)=co;have e1:∀ u,(C u).1=ln u:=λu=>by rw [<- hln]
  have e2:∀ u,(C u).2=co u:=λu=>by rw [<- hco]
  have hC:C=λu=>(ln u,co u):=by
   funext u;rw [<- e1,<- e2]
  intro n5;simp only [e1,e2] at n5 ⊢;subst hC;cases h16:ilt 16 (ofNat n) with
  | true =>have hc:ieq (Gn a n g) 0=false:=Z0 h16;rw [show Eh _=false from Uw hc];exact Ad (ks:=[kn h16]) (by kernel_rfl)/-W:w39l-/
  | false =>
  cases hc:ieq (Gn a n g) 0 with
  | false =>rw [show Eh _=false from Uw hc];exact Ad (ks:=[kn h16,kL n,kn hf,kn hc,kN (kn hc),kN (kn hc),kN (kn hc),kN (kn hc),kN (kn hc),kT]) (by kernel_rfl)/-W:w39e-/
  | true =>
   rw [show Eh _=_ from Jb hc];cases hs:Jx ⟨a,n,g,m,x,t,k,p,r,q,λu=>(ln u,co u)⟩ (ofS a n g) with
   | false=>exact Ai2 _ a n g m x t k p r q ln co h16 hf hc (by simp [By]) (all2 _ _) (all2 _ _) n1 n2 n3 n4 n5 hs
   | true=>exact Ai1 _ a n g m x t k p r q ln co h16 hf hc (by simp [By]) (all2 _ _) (all2 _ _) n1 n2 n3 n4 n5 hs
 ·cases h
end Go.Proofs.YtkbafjceglhjhaaGreatDoor.Sh
namespace Go.Proofs.YtkbafjceglhjhaaGreatDoor.Er
open Go.Sy Go Go.Proofs.YtkbafjceglhjhaaGreatDoor.Ed Go.Proofs.YtkbafjceglhjhaaGreatDoor.Sh
set_option maxRecDepth 100000
set_option maxHeartbeats 1000000
theorem bFA (b:Bool):(false && b) = false:=rfl
theorem bFO (b:Bool):(false || b) = b:=rfl
theorem bTA (b:Bool):(true && b) = b:=rfl
theorem bTO (b:Bool):(true || b) = true:=rfl
def shT (C:Sh7->AB):List V->AB
 | [v]=>apS v C
 | _=>.fail
theorem Ou {k:FuncId} {fn:Func} (hf:Tryz.prog.funcs[k]? = some fn) (hb:fn.body.isSome=true) (hn:(fn.name == "runtime.NumGoroutine")=false) {Γ:Sh7->Cx} (hG:∀ s,(Γ s).glob=Gl) (hc:∀ s,Bg Tryz.prog (Γ s).base∧Cg (Γ s))
  {C:Sh7->AB} (h:∀ s r,(C s).sem=some r->(A7 (An tab (Γ s) fn [GF s] [])).sem=some r):As Tryz.prog Gl k (shT C):=by
 refine Am AA mixed hf hb hn λvs v h' hv=>?_;unfold shT at hv;split at hv
 ·obtain ⟨s,a1,hv⟩:=apS_some hv
  exact ⟨[GF s],Γ s,h',λS w cs hq=>by
   obtain ⟨c,l,rfl,q1,q2⟩:=hq;exact ⟨c,_,rfl,a1 S w c q1,q2⟩,hG s,(hc s).1,(hc s).2,h s _ hv,Aw.refl _⟩
 ·cases hv
def NS (n:Nat) (f:Nat->Int) (lc:Int):Int:=bif isN (AU (λk=>ieq (f k) lc) n 0) then 0 else wr .i64 (Ah 7 (Int.ofNat (tO (λk=>ieq (f k) lc) n)))
def AbT:List V->AB
 | [.agg [v,.anym],.val (.int .i64 lc)]=>apI v λn f=>.br (Ap n) (.leaf (iV (NS n f lc),[])) .fail
 | _=>.fail
def Ahu:Lp:=⟨bmK 21 0 [1,2,4,8,9,10],1,bmK 21 0 [4],0,4611686018427387905⟩
def S61 (n:Nat) (f:Nat->Int) (lc:Int) (c:Int) (a:Unit) (j:Nat->V):St:=⟨jsV 21 0 j [(1,iV lc),(2,.ptr 0 0),(4,iV 0),(8,.sl 1 n (λk=>iV (f k))),(9,nV n),(10,iV c)],[.cells [.sl 1 n (λk=>iV (f k)),.anym]]⟩
noncomputable def B61 (L:LT):St->T (Ex×St):=λst=>AI tab ⟨Az tb0,L,Gl⟩ (A0 Tryz.f61 0) 0 st
def Acj (n:Nat) (f:Nat->Int) (lc:Int) (i:Nat) (a:Unit):Ex×St:=(.rt,⟨jsV 21 0 Ac [(4,iV (wr .i64 (Ah 7 (Int.ofNat i))))],[]⟩)
def g61 (n:Nat) (f:Nat->Int) (lc:Int) (i:Nat) (a:Unit):T ((Unit) ⊕ (Ex×St)):=.br (ieq (f i) lc) (.leaf (.inr (Acj n f lc i a))) (.leaf (.inl ()))
def AhO (n:Nat) (f:Nat->Int) (lc:Int) (a:Unit):Ex×St:=(.ex 0,⟨jsV 21 0 Ac [(4,iV 0)],[]⟩)
theorem r61 (L:LT) (n:Nat) (f:Nat->Int) (lc:Int)  (hn:n <= 4611686018427387904) {e:Ex×St} {a:Unit} {j:Nat->V} (h:BQ (g61 n f lc) (AhO n f lc) n 0 a=some e):(A3 (B61 L) Ahu 4611686018427387905 (S61 n f lc 0 a j)).sem=some (exR e) :=
 AY BB hn (λi a j r hi h=>DK.ok (L:=goR (S61 n f lc) exR i) (.k (ofNat_lt hi) <| .k (Ae hi) <| .c (λh1=>.k h1 <| .l) λh1=>.k h1 <| .l) (by kernel_rfl) h) (λa j=>DK.ok (C:=.leaf (AhO n f lc a)) (L:=exR) (.k (Av (Nat.le_refl n)) .l) (by kernel_rfl) rfl) (Nat.zero_add _).symm (Nat.lt_succ_of_le hn) h
def Abg:List (Nat×Lp×List (Nat×(Nat->V))):=[(0,Ahu,[])]
theorem Ada (n:Nat) (f:Nat->Int) (lc:Int) (i:Nat) (_:i<n) (h:(λk=>ieq (f k) lc) i=false):(g61 n f lc i ()).sem=some (.inl ()):=by
 replace h:ieq (f i) lc=false:=h
 show sel (ieq (f i) lc) _ _=_;rw [h];rfl
theorem AcZ (n:Nat) (f:Nat->Int) (lc:Int) (i:Nat) (_:i<n) (h:(λk=>ieq (f k) lc) i=true):(g61 n f lc i ()).sem=some (.inr (Acj n f lc i ())):=by
 replace h:ieq (f i) lc=true:=h
 show sel (ieq (f i) lc) _ _=_;rw [h];rfl
def C61 (n:Nat) (f:Nat->Int) (lc:Int):AB:=.br (isN (AU (λk=>ieq (f k) lc) n 0)) (.leaf ((iV 0),[])) (.leaf ((iV (wr .i64 (Ah 7 (Int.ofNat (tO (λk=>ieq (f k) lc) n))))),[]))
theorem Acd (n:Nat) (f:Nat->Int) (lc:Int):(C61 n f lc).sem=some (iV (NS n f lc),[]):=by
 unfold C61 NS;cases isN (AU (λk=>ieq (f k) lc) n 0) <;> rfl
theorem p61:As Tryz.prog Gl 61 AbT:=by
 refine Am AA mixed Tryz.func61 (by kernel_rfl) (by kernel_rfl) λvs v h' h=>?_;unfold AbT at h;split at h
 ·rename_i u lc
  obtain ⟨n,f,ha,h⟩:=F6 h;obtain ⟨hn,h⟩:=Ab h;have:=Aa h;simp only [Prod.mk.injEq] at this;obtain ⟨rfl,rfl⟩:=this;have w:DK (λa=>a) (C61 n f lc) _:=.c (λh1=>.a (r61 (Go.Sy.askL Abg) n f lc (Cb hn) (j:=λ_=>.und) (Nk (acc:=λ_=>()) (Ada n f lc) (AcZ n f lc) h1)) <| .l) λh1=>.a (r61 (Go.Sy.askL Abg) n f lc (Cb hn) (j:=λ_=>.und) (Nj (acc:=λ_=>()) (Ada n f lc) (AcZ n f lc) h1)) <| .l
  have hx:=Bz D7 Abg (G:=Gl);exact ⟨_,cxA Gl tb0 Abg,_,(show BK [.agg [u,.anym],iV lc] [.agg [.sl 1 n (λk=>iV (f k)),.anym],iV lc] from λS w cs hv=>by
   obtain ⟨c,l,rfl,⟨ca,rfl,c1,l1,rfl,q1,q2⟩,q3⟩:=hv;exact ⟨_,l,rfl,⟨_,rfl,c1,_,rfl,ha S w c1 q1,q2⟩,q3⟩),rfl,hx.1,hx.2,DK.of (Acd n f lc) w (by kernel_rfl),Aw.refl _⟩
 ·cases h
noncomputable def Agl:AK:=(60,IW)::[]
theorem Aaq:Ar Tryz.prog Gl Agl:=.cons p25 .nil
noncomputable def Agk:AK:=(64,IW)::[]
theorem Aao:Ar Tryz.prog Gl Agk:=.cons p39 .nil
def Jj (s:Sh7):Int:=bif Eh s then (bif ieq s.arch 2 then 0 else 5) else 70
def SA (s:Sh7):AB:=.br (CJ s.ne) (.br (IH s) (.leaf (iV (Jj s),[])) .fail) .fail
def C33 (s:Sh7):AB:=.br (CJ s.ne) (.br (Aj (Ap s.ne) (Aj (Ap s.nx) (Aj (Ap s.nr) (Aj (Ap s.nc) (Ba s.nc (λi=>Ap (s.C i).1)))))) (.br (ieq (sel (Eh s) 0 70) 0) (.br (ieq s.arch 2) (.leaf ((iV 0),[])) (.leaf ((iV 5),[]))) (.leaf ((iV 70),[]))) .fail) .fail
theorem ZP (s:Sh7) (r:V×List Blk) (h:(SA s).sem=some r):(C33 s).sem=some r:=by
 obtain ⟨h1,h⟩:=Ab h;obtain ⟨h2,h⟩:=Ab h;have h2:Aj (Ap s.ne) (Aj (Ap s.nx) (Aj (Ap s.nr) (Aj (Ap s.nc) (Ba s.nc (λi=>Ap (s.C i).1)))))=true:=h2;unfold C33;rw [h1,h2];rw [<- h];unfold Jj;cases Eh s <;> cases ieq s.arch 2 <;> rfl
theorem p33:As Tryz.prog Gl 33 (shT SA):=Ou Tryz.func33 (by kernel_rfl) (by kernel_rfl) (Γ:=λ_=>cxA Gl Agl []) (λ_=>rfl) (λ_=>Bz Aaq [])
 λs r h=>DK.of (ZP s r h) (.k (eL s.ne) <| .k (eL s.nx) <| .k (eL s.nr) <| .k (eL2 s.nc s.C) <| .g λh1=>.k h1 <| .g λh2=>.k h2 <| .c (λh3=>.k (eN h3) <| .c (λh4=>.k (eN h4) <| .l) λh4=>.k (eN h4) <| .l) λh3=>.k (eN h3) <| .l) (by kernel_rfl)
theorem p36:As Tryz.prog Gl 36 (shT SA):=Ou Tryz.func36 (by kernel_rfl) (by kernel_rfl) (Γ:=λ_=>cxA Gl Agk []) (λ_=>rfl) (λ_=>Bz Aao [])
 λs r h=>DK.of (ZP s r h) (.k (eL s.ne) <| .k (eL s.nx) <| .k (eL s.nr) <| .k (eL2 s.nc s.C) <| .g λh1=>.k h1 <| .g λh2=>.k h2 <| .c (λh3=>.k (eN h3) <| .c (λh4=>.k (eN h4) <| .l) λh4=>.k (eN h4) <| .l) λh3=>.k (eN h3) <| .l) (by kernel_rfl)
end Go.Proofs.YtkbafjceglhjhaaGreatDoor.Er
