/-
  Layer 7: whether shapes are the same, the program's (by slices.Equal). No conditions.
-/
import Derived.Test.YtkbafjceglhjhaaGreatDoorShI
import Derived.Test.YtkbafjceglhjhaaGreatDoorShB
namespace Go.Proofs.YtkbafjceglhjhaaGreatDoor.Sh
open Go.Sy Ed
open Int (ofNat)
set_option maxHeartbeats 1000000
set_option maxRecDepth 4000
theorem Aep {n:Nat} {f:Nat->E6} {m:Nat} {g:Nat->E6} (h:ieq (ofNat n) (ofNat m)=false):DC n f m g=false:=by
 unfold DC;rw [h];rfl
theorem Acs {a b:E6}:eqE a b=true↔a=b:=by
 have h:=@Kw 1 (λ_=>a) 1 (λ_=>b);have e:DC 1 (λ_=>a) 1 (λ_=>b)=eqE a b:=by
  show sel (eqE a b) true false=_;cases eqE a b <;> rfl
 rw [e] at h;exact ⟨λhh=>(h.1 hh).2 0 (by omega),λhh=>h.2 ⟨rfl,λ_ _=>hh⟩⟩
theorem Aeo {n:Nat} {f:Nat->E6} {m:Nat} {g:Nat->E6} (h:ieq (ofNat n) (ofNat m)=true):DC n f m g=Bi n λk=>eqE (f k) (g k):=by
 rw [Bool.eq_iff_iff,Kw,AE];exact ⟨λhh k hk=>Acs.2 (hh.2 k hk),λhh=>⟨Cc h,λk hk=>Acs.1 (hh k hk)⟩⟩
def PW (n:Nat) (f:Nat->Ev5) (m:Nat) (g:Nat->Ev5):Bool:=Aj (ieq (ofNat n) (ofNat m)) (Bi n λk=>Im (f k) (g k))
def Vs:List V->A3
 | [v,u]=>apG codE v λn f=>apG codE u λm g=>.br (Av n) (.leaf (bV (DC n f m g),[])) .fail
 | _=>.fail
def Vq:List V->A3
 | [v,u]=>apG Sq v λn f=>apG Sq u λm g=>.br (Av n) (.leaf (bV (PW n f m g),[])) .fail
 | _=>.fail
def Rf:List V->A3
 | [v,u,.fn 145 []]=>apG codJ v λn C=>apG codJ u λm D=>.br (Av n) (.br (Bi n λi=>Av (C i).1) (.leaf (bV (FZ n (λi=>(C i).1) (λi=>(C i).2) m (λi=>(D i).1) (λi=>(D i).2)),[])) .fail) .fail
 | _=>.fail
def AmV:Lp:=⟨bmK 26 0 [0,1,4,12,13],0,bmK 26 0 [4],0,4611686018427387905⟩
def S89 (n:Nat) (f:Nat->E6) (m:Nat) (g:Nat->E6) (c:Int) (_:Unit) (j:Nat->V):St:=⟨jsV 26 0 j [(0,.sl 6 n (λi=>eV (f i))),(1,.sl 6 m (λi=>eV (g i))),(4,bV false),(12,nV n),(13,iV c)],[]⟩
noncomputable def B89 (L:LT):St->T (Ex×St):=λst=>A8 tab ⟨Ax tb0,L,Gl⟩ (As Tryz.f143 0) 0 st
def AkG (_:Nat) (_:Nat->E6) (_:Nat) (_:Nat->E6) (_:Nat) (_:Unit):Ex×St:=(.rt,⟨jsV 26 0 Ab [(4,bV false)],[]⟩)
def g89 (n:Nat) (f:Nat->E6) (m:Nat) (g:Nat->E6) (i:Nat) (a:Unit):T ((Unit) ⊕ (Ex×St)):=.br (eqE (f i) (g i)) (.leaf (.inl ())) (.leaf (.inr (AkG n f m g i a)))
def AnL (_:Nat) (_:Nat->E6) (_:Nat) (_:Nat->E6) (_:Unit):Ex×St:=(.ex 0,⟨jsV 26 0 Ab [(4,bV false)],[]⟩)
theorem r89 (L:LT) (n:Nat) (f:Nat->E6) (m:Nat) (g:Nat->E6) (hm:n=m) (hn:n <= 4611686018427387904) {e:Ex×St} {a:Unit} {j:Nat->V} (h:Ch (g89 n f m g) (AnL n f m g) n 0 a=some e):(Au (B89 L) AmV 4611686018427387905 (S89 n f m g 0 a j)).sem=some (exR e) :=
 AT BA hn (λi a j r hi h=>DK.ok (L:=goR (S89 n f m g) exR i) (.k (ofNat_lt hi) <| .k (Ae hi) <| .k (Ae (hm ▸ hi)) <| .c (λh1=>.k (eN h1) <| .l) λh1=>.k (eN h1) <| .l) (by kernel_rfl) h) (λa j=>DK.ok (C:=.leaf (AnL n f m g a)) (L:=exR) (.k (Az (Nat.le_refl n)) .l) (by kernel_rfl) rfl) (Nat.zero_add _).symm (Nat.lt_succ_of_le hn) h
def AeI:List (Nat×Lp×List (Nat×(Nat->V))):=[(0,AmV,[])]
def C89 (n:Nat) (f:Nat->E6) (m:Nat) (g:Nat->E6):A3:=.br (ieq (ofNat n) (ofNat m)) (.br (Bi n λk=>eqE (f k) (g k)) (.leaf ((bV true),[])) (.leaf ((bV false),[]))) (.leaf ((bV false),[]))
theorem Agn (n:Nat) (f:Nat->E6) (m:Nat) (g:Nat->E6):(C89 n f m g).sem=some (bV (DC n f m g),[]):=by
 unfold C89;cases h:ieq (ofNat n) (ofNat m)
 ·rw [Aep h]; rfl
 rw [Aeo h];cases Bi n λk=>eqE (f k) (g k) <;> rfl
theorem p103:An Tryz.prog Gl 143 Vs:=by
 refine Al A2 mixed Tryz.func143 (by kernel_rfl) (by kernel_rfl) λvs v h' h=>?_;unfold Vs at h;split at h
 ·rename_i v1 u1
  obtain ⟨n,f,a1,h⟩:=BB h;obtain ⟨m,g,a2,h⟩:=BB h;obtain ⟨hn,h⟩:=Ac h;have:=Aa h;simp only [Prod.mk.injEq] at this;obtain ⟨rfl,rfl⟩:=this;have w:DK (λa=>a) (C89 n f m g) _:=.c (λh1=>.k (eN h1) <| .c (λh2=>.a (r89 (askL AeI) n f m g (Cc h1) (BU hn) (j:=λ_=>.und) (Pm (λ_ _=>rfl) h2)) <| .l) λh2=>.a (r89 (askL AeI) n f m g (Cc h1) (BU hn) (j:=λ_=>.und) (Pn (λ_ _=>rfl) h2)) <| .l) λh1=>.k (eN h1) <| .l
  have hx:=AU BS AeI (G:=Gl);exact ⟨_,cxA Gl tb0 AeI,_,(show Bz [v1,u1] [Ez codE n f,Ez codE m g] from λS w cs hv=>by
   obtain ⟨c,l,rfl,q1,c',l',rfl,q2,q3⟩:=hv;exact ⟨c,_,rfl,a1 S w c q1,c',l',rfl,a2 S w c' q2,q3⟩),rfl,hx.1,hx.2,DK.of (Agn n f m g) w (by kernel_rfl),Ap.refl _⟩
 ·cases h
def AmU:Lp:=⟨bmK 26 0 [0,1,4,12,13],0,bmK 26 0 [4],0,4611686018427387905⟩
def S90 (n:Nat) (f:Nat->Ev5) (m:Nat) (g:Nat->Ev5) (c:Int) (_:Unit) (j:Nat->V):St:=⟨jsV 26 0 j [(0,.sl 5 n (λi=>evV (f i))),(1,.sl 5 m (λi=>evV (g i))),(4,bV false),(12,nV n),(13,iV c)],[]⟩
noncomputable def B90 (L:LT):St->T (Ex×St):=λst=>A8 tab ⟨Ax tb0,L,Gl⟩ (As Tryz.f144 0) 0 st
def AkF (_:Nat) (_:Nat->Ev5) (_:Nat) (_:Nat->Ev5) (_:Nat) (_:Unit):Ex×St:=(.rt,⟨jsV 26 0 Ab [(4,bV false)],[]⟩)
def g90 (n:Nat) (f:Nat->Ev5) (m:Nat) (g:Nat->Ev5) (i:Nat) (a:Unit):T ((Unit) ⊕ (Ex×St)):=.br (Aj (ieq (f i).th (g i).th) (Aj (ieq (f i).pl (g i).pl) (Aj (ieq (f i).dir (g i).dir) (Aj (ieq (f i).loc (g i).loc) (Aj (ieq (f i).val (g i).val) true))))) (.leaf (.inl ())) (.leaf (.inr (AkF n f m g i a)))
def AnK (_:Nat) (_:Nat->Ev5) (_:Nat) (_:Nat->Ev5) (_:Unit):Ex×St:=(.ex 0,⟨jsV 26 0 Ab [(4,bV false)],[]⟩)
theorem r90 (L:LT) (n:Nat) (f:Nat->Ev5) (m:Nat) (g:Nat->Ev5) (hm:n=m) (hn:n <= 4611686018427387904) {e:Ex×St} {a:Unit} {j:Nat->V} (h:Ch (g90 n f m g) (AnK n f m g) n 0 a=some e):(Au (B90 L) AmU 4611686018427387905 (S90 n f m g 0 a j)).sem=some (exR e) :=
 AT BA hn (λi a j r hi h=>DK.ok (L:=goR (S90 n f m g) exR i) (.k (ofNat_lt hi) <| .k (Ae hi) <| .k (Ae (hm ▸ hi)) <| .c (λh1=>.k (eN h1) <| .l) λh1=>.k (eN h1) <| .l) (by kernel_rfl) h) (λa j=>DK.ok (C:=.leaf (AnK n f m g a)) (L:=exR) (.k (Az (Nat.le_refl n)) .l) (by kernel_rfl) rfl) (Nat.zero_add _).symm (Nat.lt_succ_of_le hn) h
def AeH:List (Nat×Lp×List (Nat×(Nat->V))):=[(0,AmU,[])]
def C90 (n:Nat) (f:Nat->Ev5) (m:Nat) (g:Nat->Ev5):A3:=.br (ieq (ofNat n) (ofNat m)) (.br (Bi n λk=>Im (f k) (g k)) (.leaf ((bV true),[])) (.leaf ((bV false),[]))) (.leaf ((bV false),[]))
theorem Agm (n:Nat) (f:Nat->Ev5) (m:Nat) (g:Nat->Ev5):(C90 n f m g).sem=some (bV (PW n f m g),[]):=by
 unfold C90;unfold PW;cases ieq (ofNat n) (ofNat m)
 ·rfl
 cases Bi n λk=>Im (f k) (g k) <;> rfl
theorem p104:An Tryz.prog Gl 144 Vq:=by
 refine Al A2 mixed Tryz.func144 (by kernel_rfl) (by kernel_rfl) λvs v h' h=>?_;unfold Vq at h;split at h
 ·rename_i v1 u1
  obtain ⟨n,f,a1,h⟩:=BB h;obtain ⟨m,g,a2,h⟩:=BB h;obtain ⟨hn,h⟩:=Ac h;have:=Aa h;simp only [Prod.mk.injEq] at this;obtain ⟨rfl,rfl⟩:=this;have w:DK (λa=>a) (C90 n f m g) _:=.c (λh1=>.k (eN h1) <| .c (λh2=>.a (r90 (askL AeH) n f m g (Cc h1) (BU hn) (j:=λ_=>.und) (Pm (λ_ _=>rfl) h2)) <| .l) λh2=>.a (r90 (askL AeH) n f m g (Cc h1) (BU hn) (j:=λ_=>.und) (Pn (λ_ _=>rfl) h2)) <| .l) λh1=>.k (eN h1) <| .l
  have hx:=AU BS AeH (G:=Gl);exact ⟨_,cxA Gl tb0 AeH,_,(show Bz [v1,u1] [Ez Sq n f,Ez Sq m g] from λS w cs hv=>by
   obtain ⟨c,l,rfl,q1,c',l',rfl,q2,q3⟩:=hv;exact ⟨c,_,rfl,a1 S w c q1,c',l',rfl,a2 S w c' q2,q3⟩),rfl,hx.1,hx.2,DK.of (Agm n f m g) w (by kernel_rfl),Ap.refl _⟩
 ·cases h
def AmT:Lp:=⟨bmK 26 0 [0,1,4,12,13],0,bmK 26 0 [4],0,4611686018427387905⟩
def S91 (n:Nat) (f:Nat->Int) (m:Nat) (g:Nat->Int) (c:Int) (_:Unit) (j:Nat->V):St:=⟨jsV 26 0 j [(0,.sl 1 n (λi=>iV (f i))),(1,.sl 1 m (λi=>iV (g i))),(4,bV false),(12,nV n),(13,iV c)],[]⟩
noncomputable def B91 (L:LT):St->T (Ex×St):=λst=>A8 tab ⟨Ax tb0,L,Gl⟩ (As Tryz.f145 0) 0 st
def AkE (_:Nat) (_:Nat->Int) (_:Nat) (_:Nat->Int) (_:Nat) (_:Unit):Ex×St:=(.rt,⟨jsV 26 0 Ab [(4,bV false)],[]⟩)
def g91 (n:Nat) (f:Nat->Int) (m:Nat) (g:Nat->Int) (i:Nat) (a:Unit):T ((Unit) ⊕ (Ex×St)):=.br (ieq (f i) (g i)) (.leaf (.inl ())) (.leaf (.inr (AkE n f m g i a)))
def AnJ (_:Nat) (_:Nat->Int) (_:Nat) (_:Nat->Int) (_:Unit):Ex×St:=(.ex 0,⟨jsV 26 0 Ab [(4,bV false)],[]⟩)
theorem r91 (L:LT) (n:Nat) (f:Nat->Int) (m:Nat) (g:Nat->Int) (hm:n=m) (hn:n <= 4611686018427387904) {e:Ex×St} {a:Unit} {j:Nat->V} (h:Ch (g91 n f m g) (AnJ n f m g) n 0 a=some e):(Au (B91 L) AmT 4611686018427387905 (S91 n f m g 0 a j)).sem=some (exR e) :=
 AT BA hn (λi a j r hi h=>DK.ok (L:=goR (S91 n f m g) exR i) (.k (ofNat_lt hi) <| .k (Ae hi) <| .k (Ae (hm ▸ hi)) <| .c (λh1=>.k (eN h1) <| .l) λh1=>.k (eN h1) <| .l) (by kernel_rfl) h) (λa j=>DK.ok (C:=.leaf (AnJ n f m g a)) (L:=exR) (.k (Az (Nat.le_refl n)) .l) (by kernel_rfl) rfl) (Nat.zero_add _).symm (Nat.lt_succ_of_le hn) h
def AeG:List (Nat×Lp×List (Nat×(Nat->V))):=[(0,AmT,[])]
def C91 (n:Nat) (f:Nat->Int) (m:Nat) (g:Nat->Int):A3:=.br (ieq (ofNat n) (ofNat m)) (.br (Bi n λk=>ieq (f k) (g k)) (.leaf ((bV true),[])) (.leaf ((bV false),[]))) (.leaf ((bV false),[]))
theorem Agl (n:Nat) (f:Nat->Int) (m:Nat) (g:Nat->Int):(C91 n f m g).sem=some (bV (DJ n f m g),[]):=by
 unfold C91;unfold DJ;cases ieq (ofNat n) (ofNat m)
 ·rfl
 cases Bi n λk=>ieq (f k) (g k) <;> rfl
theorem Am7:An Tryz.prog Gl 145 I1:=by
 refine Al A2 mixed Tryz.func145 (by kernel_rfl) (by kernel_rfl) λvs v h' h=>?_;unfold I1 at h;split at h
 ·rename_i v1 u1
  obtain ⟨n,f,a1,h⟩:=BB h;obtain ⟨m,g,a2,h⟩:=BB h;obtain ⟨hn,h⟩:=Ac h;have:=Aa h;simp only [Prod.mk.injEq] at this;obtain ⟨rfl,rfl⟩:=this;have w:DK (λa=>a) (C91 n f m g) _:=.c (λh1=>.k (eN h1) <| .c (λh2=>.a (r91 (askL AeG) n f m g (Cc h1) (BU hn) (j:=λ_=>.und) (Pm (λ_ _=>rfl) h2)) <| .l) λh2=>.a (r91 (askL AeG) n f m g (Cc h1) (BU hn) (j:=λ_=>.und) (Pn (λ_ _=>rfl) h2)) <| .l) λh1=>.k (eN h1) <| .l
  have hx:=AU BS AeG (G:=Gl);exact ⟨_,cxA Gl tb0 AeG,_,(show Bz [v1,u1] [Ez PC n f,Ez PC m g] from λS w cs hv=>by
   obtain ⟨c,l,rfl,q1,c',l',rfl,q2,q3⟩:=hv;exact ⟨c,_,rfl,a1 S w c q1,c',l',rfl,a2 S w c' q2,q3⟩),rfl,hx.1,hx.2,DK.of (Agl n f m g) w (by kernel_rfl),Ap.refl _⟩
 ·cases h
noncomputable def tb106:A9:=(145,I1)::[]
theorem tb106_ok:Ao Tryz.prog Gl tb106:=.cons Am7 .nil
def AgW:Lp:=⟨bmK 32 0 [0,1,2,6,15,16,17],0,bmK 32 0 [6],0,4611686018427387905⟩
def Aoq (n:Nat) (C:Nat->Nat×(Nat->Int)) (m:Nat) (D:Nat->Nat×(Nat->Int)) (c:Int) (_:Unit) (j:Nat->V):St:=⟨jsV 32 0 j [(0,.sl 1 n (λu=>.sl 1 (C u).1 (λi=>iV ((C u).2 i)))),(1,.sl 1 m (λu=>.sl 1 (D u).1 (λi=>iV ((D u).2 i)))),(2,.fn 145 []),(6,bV false),(15,.sl 1 n (λu=>.sl 1 (C u).1 (λi=>iV ((C u).2 i)))),(16,nV n),(17,iV c)],[]⟩
noncomputable def ApO (L:LT):St->T (Ex×St):=λst=>A8 tab ⟨Ax tb106,L,Gl⟩ (As Tryz.f146 0) 0 st
def AhE (_:Nat) (_:Nat->Nat×(Nat->Int)) (_:Nat) (_:Nat->Nat×(Nat->Int)) (_:Nat) (_:Unit):Ex×St:=(.rt,⟨jsV 32 0 Ab [(6,bV false)],[]⟩)
def Ap0 (n:Nat) (C:Nat->Nat×(Nat->Int)) (m:Nat) (D:Nat->Nat×(Nat->Int)) (i:Nat) (a:Unit):T ((Unit) ⊕ (Ex×St)):=.br (DJ (C i).1 (C i).2 (D i).1 (D i).2) (.leaf (.inl ())) (.leaf (.inr (AhE n C m D i a)))
def Ahs (_:Nat) (_:Nat->Nat×(Nat->Int)) (_:Nat) (_:Nat->Nat×(Nat->Int)) (_:Unit):Ex×St:=(.ex 0,⟨jsV 32 0 Ab [(6,bV false)],[]⟩)
theorem Ami (L:LT) (n:Nat) (C:Nat->Nat×(Nat->Int)) (m:Nat) (D:Nat->Nat×(Nat->Int)) (hm:n=m) (hs:(Bi n λk=>Av (C k).1)=true) (hn:n <= 4611686018427387904) {e:Ex×St} {a:Unit} {j:Nat->V} (h:Ch (Ap0 n C m D) (Ahs n C m D) n 0 a=some e):(Au (ApO L) AgW 4611686018427387905 (Aoq n C m D 0 a j)).sem=some (exR e) :=
 AT BA hn (λi a j r hi h=>DK.ok (L:=goR (Aoq n C m D) exR i) (.k (ofNat_lt hi) <| .k (Ae hi) <| .k (Ae (hm ▸ hi)) <| .k (eL (C i).1) <| .k (eL (D i).1) <| .k (AE.1 hs i hi) <| .c (λh1=>.k (eN h1) <| .l) λh1=>.k (eN h1) <| .l) (by kernel_rfl) h) (λa j=>DK.ok (C:=.leaf (Ahs n C m D a)) (L:=exR) (.k (Az (Nat.le_refl n)) .l) (by kernel_rfl) rfl) (Nat.zero_add _).symm (Nat.lt_succ_of_le hn) h
def Xl:List (Nat×Lp×List (Nat×(Nat->V))):=[(0,AgW,[])]
def AkB (n:Nat) (C:Nat->Nat×(Nat->Int)) (m:Nat) (D:Nat->Nat×(Nat->Int)):A3:=.br (ieq (ofNat n) (ofNat m)) (.br (Bi n λk=>DJ (C k).1 (C k).2 (D k).1 (D k).2) (.leaf ((bV true),[])) (.leaf ((bV false),[]))) (.leaf ((bV false),[]))
theorem Adr (n:Nat) (C:Nat->Nat×(Nat->Int)) (m:Nat) (D:Nat->Nat×(Nat->Int)):(AkB n C m D).sem=some (bV (FZ n (λi=>(C i).1) (λi=>(C i).2) m (λi=>(D i).1) (λi=>(D i).2)),[]):=by
 unfold AkB FZ;cases ieq (ofNat n) (ofNat m)
 ·rfl
 cases Bi n λk=>DJ (C k).1 (C k).2 (D k).1 (D k).2 <;> rfl
theorem Apj:An Tryz.prog Gl 146 Rf:=by
 refine Al A2 mixed Tryz.func146 (by kernel_rfl) (by kernel_rfl) λvs v h' h=>?_;unfold Rf at h;split at h
 ·rename_i v1 u1
  obtain ⟨n,C,a1,h⟩:=BB h;obtain ⟨m,D,a2,h⟩:=BB h;obtain ⟨hn,h⟩:=Ac h;obtain ⟨hs,h⟩:=Ac h;have:=Aa h;simp only [Prod.mk.injEq] at this;obtain ⟨rfl,rfl⟩:=this;have w:DK (λa=>a) (AkB n C m D) _:=.c (λh1=>.k (eN h1) <| .c (λh2=>.a (Ami (askL Xl) n C m D (Cc h1) hs (BU hn) (j:=λ_=>.und) (Pm (λ_ _=>rfl) h2)) <| .l) λh2=>.a (Ami (askL Xl) n C m D (Cc h1) hs (BU hn) (j:=λ_=>.und) (Pn (λ_ _=>rfl) h2)) <| .l) λh1=>.k (eN h1) <| .l
  have hx:=AU tb106_ok Xl (G:=Gl);exact ⟨_,cxA Gl tb106 Xl,_,(show Bz [v1,u1,.fn 145 []] [.sl 1 n (λu=>.sl 1 (C u).1 (λi=>iV ((C u).2 i))),.sl 1 m (λu=>.sl 1 (D u).1 (λi=>iV ((D u).2 i))),.fn 145 []] from λS w cs hv=>by
   obtain ⟨c,l,rfl,q1,c',l',rfl,q2,q3⟩:=hv;exact ⟨c,_,rfl,a1 S w c q1,c',l',rfl,a2 S w c' q2,q3⟩),rfl,hx.1,hx.2,DK.of (Adr n C m D) w (by kernel_rfl),Ap.refl _⟩
 ·cases h
noncomputable def Alp:A9:=(143,Vs)::(144,Vq)::(145,I1)::(146,Rf)::[]
theorem Ad9:Ao Tryz.prog Gl Alp:=.cons p103 <| .cons p104 <| .cons Am7 <| .cons Apj .nil
theorem Aen (a b c d e i j k:Bool):Aj a (Aj b (Aj c (Aj d (Aj e (Aj i (Aj j k))))))=Aj a (Aj b (Aj c (Aj d (Aj (Aj e k) (Aj i (Aj j true)))))):=by
 cases a <;> cases b <;> cases c <;> cases d <;> cases e <;> cases i <;> cases j <;> cases k <;> rfl
def C58 (s s':Sh7):A3:=.br (ieq s.arch s'.arch) (.br (ieq s.tt s'.tt) (.br (ieq s.kk s'.kk) (.br (DC s.ne (λi=>s.E i) s'.ne (λi=>s'.E i)) (.br (PW s.nx (λi=>s.X i) s'.nx (λi=>s'.X i)) (.br (DJ s.nr s.R s'.nr s'.R) (.leaf ((bV (FZ s.nc (λi=>(s.C i).1) (λi i_1=>(s.C i).2 i_1) s'.nc (λi=>(s'.C i).1) (λi i_1=>(s'.C i).2 i_1))),[])) (.leaf ((bV false),[]))) (.leaf ((bV false),[]))) (.leaf ((bV false),[]))) (.leaf ((bV false),[]))) (.leaf ((bV false),[]))) (.leaf ((bV false),[]))
theorem Agr (s s':Sh7):(C58 s s').sem=some (bV (J5 s s'),[]):=by
 unfold C58 J5;rw [Aen];show _=some (bV (Aj _ (Aj _ (Aj _ (Aj _ (Aj (PW s.nx s.X s'.nx s'.X) _))))),[]);cases ieq s.arch s'.arch
 ·rfl
 cases ieq s.tt s'.tt
 ·rfl
 cases ieq s.kk s'.kk
 ·rfl
 cases DC s.ne s.E s'.ne s'.E
 ·rfl
 cases PW s.nx s.X s'.nx s'.X
 ·rfl
 cases DJ s.nr s.R s'.nr s'.R
 ·rfl
 cases FZ s.nc (λi=>(s.C i).1) (λi=>(s.C i).2) s'.nc (λi=>(s'.C i).1) (λi=>(s'.C i).2) <;> rfl
theorem p72:An Tryz.prog Gl 100 JH:=by
 refine Al A2 mixed Tryz.func100 (by kernel_rfl) (by kernel_rfl) λvs v h' h=>?_;unfold JH at h;split at h
 ·rename_i v1 u1
  obtain ⟨s,a1,h⟩:=apS_some h;obtain ⟨s',a2,h⟩:=apS_some h;obtain ⟨hn,h⟩:=Ac h;have:=Aa h;simp only [Prod.mk.injEq] at this;obtain ⟨rfl,rfl⟩:=this;have hn:Av s.ne=true∧Av s.nx=true∧Av s.nr=true∧Av s.nc=true∧(Bi s.nc λi=>Av (s.C i).1)=true:=by simpa [Fu,Aj] using hn
  obtain ⟨n1,n2,n3,n4,n5⟩:=hn;have w:DK (λa=>a) (C58 s s') _:=.c (λh1=>.r 6 h1 <| .c (λh2=>.r 6 h2 <| .c (λh3=>.r 5 h3 <| .k (eL s.ne) <| .k (eL s'.ne) <| .k n1 <| .k h3 <| .c (λh4=>.r 5 h4 <| .k (eL s.nx) <| .k (eL s'.nx) <| .k n2 <| .k h4 <| .c (λh5=>.r 5 h5 <| .k (eL s.nr) <| .k (eL s'.nr) <| .k n3 <| .k h5 <| .c (λh6=>.r 5 h6 <| .k (eL2 s.nc s.C) <| .k (eL2 s'.nc s'.C) <| .k n4 <| .k n5 <| .k h6 <| .l) λh6=>.r 6 h6 <| .l) λh5=>.r 6 h5 <| .r 6 eF <| .l) λh4=>.r 6 h4 <| .r 12 eF <| .l) λh3=>.r 6 h3 <| .r 18 eF <| .l) λh2=>.r 6 h2 <| .r 24 eF <| .l) λh1=>.r 6 h1 <| .r 30 eF <| .l
  have hx:=AU Ad9 [] (G:=Gl);exact ⟨_,cxA Gl Alp [],_,(show Bz [v1,u1] [EY s,EY s'] from λS w cs hv=>by
   obtain ⟨c,l,rfl,q1,c',l',rfl,q2,q3⟩:=hv;exact ⟨c,_,rfl,a1 S w c q1,c',l',rfl,a2 S w c' q2,q3⟩),rfl,hx.1,hx.2,DK.of (Agr s s') w (by kernel_rfl),Ap.refl _⟩
 ·cases h
end Go.Proofs.YtkbafjceglhjhaaGreatDoor.Sh
namespace Go.Proofs.YtkbafjceglhjhaaGreatDoor.Sh
open Go.Sy Ed
open Int (ofNat)
set_option maxHeartbeats 1000000
set_option maxRecDepth 4000
def ofS (a:Int) (n:Nat) (f:Nat->E6):Sh7:=⟨a,n,shG n f,n,evF n (shG n f) (λ_=>true),ofNat (ttN n (shG n f)),ofNat (kkN n (shG n f)),n,rfF n (shG n f) (λ_=>true),kkN n (shG n f),
 λk=>(lnN (mbF (shG n f)) (wrF (shG n f)) n k,λi=>ofNat (coN (mbF (shG n f)) (wrF (shG n f)) n k i))⟩
def D1 (s:Sh7):Bool:=Aj (ieq (He s.arch s.ne s.E) 0) (J5 s (ofS s.arch s.ne s.E))
def JW:List V->A3
 | [v]=>apS v λs=>.br (CU s.ne) (.br (Fu s) (.leaf (iV (sel (D1 s) 0 70),[])) .fail) .fail
 | _=>.fail
theorem AcI {a:Int} {n:Nat} {f:Nat->E6} (h:ilt 16 (ofNat n)=true):ieq (He a n f) 0=false:=by
 cases hc:ieq (He a n f) 0 with
 | false=>rfl
 | true =>have:=(Bs hc).hi;rw [show (16:Int)=ofNat 16 from rfl,Dt] at h;have:=of_decide_eq_true h;omega
noncomputable def AdR:A9:=(99,ofT)::(100,JH)::[]
theorem AdQ:Ao Tryz.prog Gl AdR:=.cons p14 <| .cons p72 .nil
noncomputable def AdJ:A9:=(68,ofT)::(102,JH)::[]
theorem AdI:Ao Tryz.prog Gl AdJ:=.cons p15 <| .cons p16 .nil
section
variable (L:LT) (a:Int) (n:Nat) (g:Nat->E6) (m:Nat) (x:Nat->Ev5) (t k:Int) (p:Nat) (r:Nat->Int) (q:Nat) (ln:Nat->Nat) (co:Nat->Nat->Int)
include L a n g m x t k p r q ln co
theorem Ao9 (h17:CU n=true) (h0:ieq (He a n g) 0=true) (h18:BG [.cells (shL a n g m x t k p r q ln co),.row 76 6 n (λi=>eV (shG n g i)),.row 74 5 n (λi=>evV (evF n (shG n g) (λ_=>true) i)),.row 3 1 n (λi=>iV (rfF n (shG n g) (λ_=>true) i)),.jag (Jag.mk 24 1 (kkN n (shG n g)) Ab 0 3 1 (λ_=>true) (lnN (mbF (shG n g)) (wrF (shG n g)) n) (λk i=>iV (ofNat (coN (mbF (shG n g)) (wrF (shG n g)) n k i))) none),.cells [iV a,.ref 1,.ref 2,iV (ofNat (ttN n (shG n g))),iV (ofNat (kkN n (shG n g))),.ref 3,.jref 4]]=true) (h19:Bi q (λi=>Bi (ln i) (λ_=>true))=true) (h20:Bi (kkN n (shG n g)) (λi=>Bi (lnN (mbF (shG n g)) (wrF (shG n g)) n i) (λ_=>true))=true) (h21:Av n=true) (h22:Av m=true) (h23:Av p=true) (h24:Av q=true) (h25:Bi q (λi=>Av (ln i))=true) (h1:Aj (ieq a a) (Aj (ieq t (ofNat (ttN n (shG n g)))) (Aj (ieq k (ofNat (kkN n (shG n g)))) (Aj (DC n g n (λi=>shG n g i)) (Aj (ieq (ofNat m) (ofNat n)) (Aj (DJ p r n (rfF n (shG n g) (λ_=>true))) (Aj (FZ q ln (λi i_1=>co i i_1) (kkN n (shG n g)) (lnN (mbF (shG n g)) (wrF (shG n g)) n) (λi i_1=>ofNat (coN (mbF (shG n g)) (wrF (shG n g)) n i i_1))) (Bi m (λk=>Im (x k) (evF n (shG n g) (λ_=>true) k)))))))))=false):(A0 (Ai tab ⟨Ax AdR,L,Gl⟩ Tryz.f60 [.agg (shL a n g m x t k p r q ln co)] [])).sem=some ((iV 70),[]):=by
 exact Ad (ks:=[kL n,kn h17,kn h0,kN (kI 0),kN (kI 0),kN (kI 0),kn h18,kL n,kL m,kL p,kn h19,kL n,kL n,kL n,kn h20,kA (kn h21) (kA (kn h22) (kA (kn h23) (kA (kn h24) (kn h25)))),kN (kI 0),kN (kI 0),kN (kn h1)]) (by kernel_rfl)
theorem Ao8 (h17:CU n=true) (h0:ieq (He a n g) 0=true) (h18:BG [.cells (shL a n g m x t k p r q ln co),.row 76 6 n (λi=>eV (shG n g i)),.row 74 5 n (λi=>evV (evF n (shG n g) (λ_=>true) i)),.row 3 1 n (λi=>iV (rfF n (shG n g) (λ_=>true) i)),.jag (Jag.mk 24 1 (kkN n (shG n g)) Ab 0 3 1 (λ_=>true) (lnN (mbF (shG n g)) (wrF (shG n g)) n) (λk i=>iV (ofNat (coN (mbF (shG n g)) (wrF (shG n g)) n k i))) none),.cells [iV a,.ref 1,.ref 2,iV (ofNat (ttN n (shG n g))),iV (ofNat (kkN n (shG n g))),.ref 3,.jref 4]]=true) (h19:Bi q (λi=>Bi (ln i) (λ_=>true))=true) (h20:Bi (kkN n (shG n g)) (λi=>Bi (lnN (mbF (shG n g)) (wrF (shG n g)) n i) (λ_=>true))=true) (h21:Av n=true) (h22:Av m=true) (h23:Av p=true) (h24:Av q=true) (h25:Bi q (λi=>Av (ln i))=true) (h1:Aj (ieq a a) (Aj (ieq t (ofNat (ttN n (shG n g)))) (Aj (ieq k (ofNat (kkN n (shG n g)))) (Aj (DC n g n (λi=>shG n g i)) (Aj (ieq (ofNat m) (ofNat n)) (Aj (DJ p r n (rfF n (shG n g) (λ_=>true))) (Aj (FZ q ln (λi i_1=>co i i_1) (kkN n (shG n g)) (lnN (mbF (shG n g)) (wrF (shG n g)) n) (λi i_1=>ofNat (coN (mbF (shG n g)) (wrF (shG n g)) n i i_1))) (Bi m (λk=>Im (x k) (evF n (shG n g) (λ_=>true) k)))))))))=true):(A0 (Ai tab ⟨Ax AdR,L,Gl⟩ Tryz.f60 [.agg (shL a n g m x t k p r q ln co)] [])).sem=some ((iV 0),[]):=by
 exact Ad (ks:=[kL n,kn h17,kn h0,kN (kI 0),kN (kI 0),kN (kI 0),kn h18,kL n,kL m,kL p,kn h19,kL n,kL n,kL n,kn h20,kA (kn h21) (kA (kn h22) (kA (kn h23) (kA (kn h24) (kn h25)))),kN (kI 0),kN (kI 0),kN (kn h1)]) (by kernel_rfl)
end
theorem p25:An Tryz.prog Gl 60 JW:=by
 refine Al A2 mixed Tryz.func60 (by kernel_rfl) (by kernel_rfl) λvs v h' h=>?_;unfold JW at h;split at h
 ·rename_i v1
  obtain ⟨s,a1,h⟩:=apS_some h;obtain ⟨hf,h⟩:=Ac h;obtain ⟨hn,h⟩:=Ac h;have:=Aa h;simp only [Prod.mk.injEq] at this;obtain ⟨rfl,rfl⟩:=this;obtain ⟨a,n,g,m,x,t,k,p,r,q,C⟩:=s;have hA:Bz [v1] [.agg [iV a,.sl 6 n (λi=>eV (g i)),.sl 5 m (λi=>evV (x i)),iV t,iV k,.sl 1 p (λi=>iV (r i)),.sl 1 q (λu=>.sl 1 (C u).1 (λi=>iV ((C u).2 i)))]]:=λS w cs hv=>by
   obtain ⟨c,l,rfl,q1,q2⟩:=hv;exact ⟨c,_,rfl,a1 S w c q1,q2⟩
  have hn:Av n=true∧Av m=true∧Av p=true∧Av q=true∧(Bi q λi=>Av (C i).1)=true:=by simpa [Fu,Aj] using hn
  obtain ⟨n1,n2,n3,n4,n5⟩:=hn;have hx:=Bq AdQ [] (G:=Gl);refine ⟨_,AP Gl AdR [],_,hA,rfl,hx.1,hx.2,?_,Ap.refl _⟩;have all2:∀ (q:Nat) (ln:Nat->Nat),(Bi q λi=>Bi (ln i) λ_=>true)=true:=λ_ _=>AE.2 λ_ _=>AE.2 λ_ _=>rfl;show _=some (iV (sel (D1 ⟨a,n,g,m,x,t,k,p,r,q,C⟩) 0 70),_);revert n5;generalize hln:(λi=>(C i).1)=ln;generalize hco:(λi=>(C i).2)=co;have e1:∀ u,(C u).1=ln u:=λu=>by rw [<- hln]
  have e2:∀ u,(C u).2=co u:=λu=>by rw [<- hco]
  have hC:C=λu=>(ln u,co u):=by
   funext u;rw [<- e1,<- e2]
  intro n5;simp only [e1,e2] at n5 ⊢;subst hC;cases hc:ieq (He a n g) 0 with
  | false =>rw [show D1 _=false from W1 hc];exact Ad (ks:=[kL n,kn hf,kn hc,kN (kn hc),kN (kn hc),kN (kn hc),kN (kn hc),kN (kn hc),kT]) (by kernel_rfl)/-W:w25e-/
  | true =>
   rw [show D1 _=_ from F6 hc];cases hs:J5 ⟨a,n,g,m,x,t,k,p,r,q,λu=>(ln u,co u)⟩ (ofS a n g) with
   | false=>exact Ao9 _ a n g m x t k p r q ln co hf hc (by simp [BG]) (all2 _ _) (all2 _ _) n1 n2 n3 n4 n5 hs
   | true=>exact Ao8 _ a n g m x t k p r q ln co hf hc (by simp [BG]) (all2 _ _) (all2 _ _) n1 n2 n3 n4 n5 hs
 ·cases h
section
variable (L:LT) (a:Int) (n:Nat) (g:Nat->E6) (m:Nat) (x:Nat->Ev5) (t k:Int) (p:Nat) (r:Nat->Int) (q:Nat) (ln:Nat->Nat) (co:Nat->Nat->Int)
include L a n g m x t k p r q ln co
theorem Ao7 (h0:ilt 16 (ofNat n)=false) (h18:CU n=true) (h1:ieq (He a n g) 0=true) (h19:BG [.cells (shL a n g m x t k p r q ln co),.row 76 6 n (λi=>eV (shG n g i)),.row 74 5 n (λi=>evV (evF n (shG n g) (λ_=>true) i)),.row 3 1 n (λi=>iV (rfF n (shG n g) (λ_=>true) i)),.jag (Jag.mk 24 1 (kkN n (shG n g)) Ab 0 3 1 (λ_=>true) (lnN (mbF (shG n g)) (wrF (shG n g)) n) (λk i=>iV (ofNat (coN (mbF (shG n g)) (wrF (shG n g)) n k i))) none),.cells [iV a,.ref 1,.ref 2,iV (ofNat (ttN n (shG n g))),iV (ofNat (kkN n (shG n g))),.ref 3,.jref 4]]=true) (h20:Bi q (λi=>Bi (ln i) (λ_=>true))=true) (h21:Bi (kkN n (shG n g)) (λi=>Bi (lnN (mbF (shG n g)) (wrF (shG n g)) n i) (λ_=>true))=true) (h22:Av n=true) (h23:Av m=true) (h24:Av p=true) (h25:Av q=true) (h26:Bi q (λi=>Av (ln i))=true) (h2:Aj (ieq a a) (Aj (ieq t (ofNat (ttN n (shG n g)))) (Aj (ieq k (ofNat (kkN n (shG n g)))) (Aj (DC n g n (λi=>shG n g i)) (Aj (ieq (ofNat m) (ofNat n)) (Aj (DJ p r n (rfF n (shG n g) (λ_=>true))) (Aj (FZ q ln (λi i_1=>co i i_1) (kkN n (shG n g)) (lnN (mbF (shG n g)) (wrF (shG n g)) n) (λi i_1=>ofNat (coN (mbF (shG n g)) (wrF (shG n g)) n i i_1))) (Bi m (λk=>Im (x k) (evF n (shG n g) (λ_=>true) k)))))))))=false):(A0 (Ai tab ⟨Ax AdJ,L,Gl⟩ Tryz.f64 [.agg (shL a n g m x t k p r q ln co)] [])).sem=some ((iV 70),[]):=by
 exact Ad (ks:=[kn h0,kL n,kn h18,kn h1,kN (kI 0),kN (kI 0),kN (kI 0),kn h19,kL n,kL m,kL p,kn h20,kL n,kL n,kL n,kn h21,kA (kn h22) (kA (kn h23) (kA (kn h24) (kA (kn h25) (kn h26)))),kN (kI 0),kN (kI 0),kN (kn h2)]) (by kernel_rfl)
theorem Ao6 (h0:ilt 16 (ofNat n)=false) (h18:CU n=true) (h1:ieq (He a n g) 0=true) (h19:BG [.cells (shL a n g m x t k p r q ln co),.row 76 6 n (λi=>eV (shG n g i)),.row 74 5 n (λi=>evV (evF n (shG n g) (λ_=>true) i)),.row 3 1 n (λi=>iV (rfF n (shG n g) (λ_=>true) i)),.jag (Jag.mk 24 1 (kkN n (shG n g)) Ab 0 3 1 (λ_=>true) (lnN (mbF (shG n g)) (wrF (shG n g)) n) (λk i=>iV (ofNat (coN (mbF (shG n g)) (wrF (shG n g)) n k i))) none),.cells [iV a,.ref 1,.ref 2,iV (ofNat (ttN n (shG n g))),iV (ofNat (kkN n (shG n g))),.ref 3,.jref 4]]=true) (h20:Bi q (λi=>Bi (ln i) (λ_=>true))=true) (h21:Bi (kkN n (shG n g)) (λi=>Bi (lnN (mbF (shG n g)) (wrF (shG n g)) n i) (λ_=>true))=true) (h22:Av n=true) (h23:Av m=true) (h24:Av p=true) (h25:Av q=true) (h26:Bi q (λi=>Av (ln i))=true) (h2:Aj (ieq a a) (Aj (ieq t (ofNat (ttN n (shG n g)))) (Aj (ieq k (ofNat (kkN n (shG n g)))) (Aj (DC n g n (λi=>shG n g i)) (Aj (ieq (ofNat m) (ofNat n)) (Aj (DJ p r n (rfF n (shG n g) (λ_=>true))) (Aj (FZ q ln (λi i_1=>co i i_1) (kkN n (shG n g)) (lnN (mbF (shG n g)) (wrF (shG n g)) n) (λi i_1=>ofNat (coN (mbF (shG n g)) (wrF (shG n g)) n i i_1))) (Bi m (λk=>Im (x k) (evF n (shG n g) (λ_=>true) k)))))))))=true):(A0 (Ai tab ⟨Ax AdJ,L,Gl⟩ Tryz.f64 [.agg (shL a n g m x t k p r q ln co)] [])).sem=some ((iV 0),[]):=by
 exact Ad (ks:=[kn h0,kL n,kn h18,kn h1,kN (kI 0),kN (kI 0),kN (kI 0),kn h19,kL n,kL m,kL p,kn h20,kL n,kL n,kL n,kn h21,kA (kn h22) (kA (kn h23) (kA (kn h24) (kA (kn h25) (kn h26)))),kN (kI 0),kN (kI 0),kN (kn h2)]) (by kernel_rfl)
end
theorem p39:An Tryz.prog Gl 64 JW:=by
 refine Al A2 mixed Tryz.func64 (by kernel_rfl) (by kernel_rfl) λvs v h' h=>?_;unfold JW at h;split at h
 ·rename_i v1
  obtain ⟨s,a1,h⟩:=apS_some h;obtain ⟨hf,h⟩:=Ac h;obtain ⟨hn,h⟩:=Ac h;have:=Aa h;simp only [Prod.mk.injEq] at this;obtain ⟨rfl,rfl⟩:=this;obtain ⟨a,n,g,m,x,t,k,p,r,q,C⟩:=s;have hA:Bz [v1] [.agg [iV a,.sl 6 n (λi=>eV (g i)),.sl 5 m (λi=>evV (x i)),iV t,iV k,.sl 1 p (λi=>iV (r i)),.sl 1 q (λu=>.sl 1 (C u).1 (λi=>iV ((C u).2 i)))]]:=λS w cs hv=>by
   obtain ⟨c,l,rfl,q1,q2⟩:=hv;exact ⟨c,_,rfl,a1 S w c q1,q2⟩
  have hn:Av n=true∧Av m=true∧Av p=true∧Av q=true∧(Bi q λi=>Av (C i).1)=true:=by simpa [Fu,Aj] using hn
  obtain ⟨n1,n2,n3,n4,n5⟩:=hn;have hx:=Bq AdI [] (G:=Gl);refine ⟨_,AP Gl AdJ [],_,hA,rfl,hx.1,hx.2,?_,Ap.refl _⟩;have all2:∀ (q:Nat) (ln:Nat->Nat),(Bi q λi=>Bi (ln i) λ_=>true)=true:=λ_ _=>AE.2 λ_ _=>AE.2 λ_ _=>rfl;show _=some (iV (sel (D1 ⟨a,n,g,m,x,t,k,p,r,q,C⟩) 0 70),_);revert n5;generalize hln:(λi=>(C i).1)=ln;generalize hco:(λi=>(C i).2)=co;have e1:∀ u,(C u).1=ln u:=λu=>by rw [<- hln]
  have e2:∀ u,(C u).2=co u:=λu=>by rw [<- hco]
  have hC:C=λu=>(ln u,co u):=by
   funext u;rw [<- e1,<- e2]
  intro n5;simp only [e1,e2] at n5 ⊢;subst hC;cases h16:ilt 16 (ofNat n) with
  | true =>have hc:ieq (He a n g) 0=false:=AcI h16;rw [show D1 _=false from W1 hc];exact Ad (ks:=[kn h16]) (by kernel_rfl)/-W:w39l-/
  | false =>
  cases hc:ieq (He a n g) 0 with
  | false =>rw [show D1 _=false from W1 hc];exact Ad (ks:=[kn h16,kL n,kn hf,kn hc,kN (kn hc),kN (kn hc),kN (kn hc),kN (kn hc),kN (kn hc),kT]) (by kernel_rfl)/-W:w39e-/
  | true =>
   rw [show D1 _=_ from F6 hc];cases hs:J5 ⟨a,n,g,m,x,t,k,p,r,q,λu=>(ln u,co u)⟩ (ofS a n g) with
   | false=>exact Ao7 _ a n g m x t k p r q ln co h16 hf hc (by simp [BG]) (all2 _ _) (all2 _ _) n1 n2 n3 n4 n5 hs
   | true=>exact Ao6 _ a n g m x t k p r q ln co h16 hf hc (by simp [BG]) (all2 _ _) (all2 _ _) n1 n2 n3 n4 n5 hs
 ·cases h
end Go.Proofs.YtkbafjceglhjhaaGreatDoor.Sh
namespace Go.Proofs.YtkbafjceglhjhaaGreatDoor.Er
open Go.Sy Go Go.Proofs.YtkbafjceglhjhaaGreatDoor.Ed Go.Proofs.YtkbafjceglhjhaaGreatDoor.Sh
set_option maxRecDepth 100000
set_option maxHeartbeats 1000000
theorem bFA (b:Bool):(false && b)=false:=rfl
theorem bFO (b:Bool):(false || b)=b:=rfl
theorem bTA (b:Bool):(true && b)=b:=rfl
theorem bTO (b:Bool):(true || b)=true:=rfl
def shT (C:Sh7->A3):List V->A3
 | [v]=>apS v C
 | _=>.fail
theorem I4 {k:FuncId} {fn:Func} (hf:Tryz.prog.funcs[k]? = some fn) (hb:fn.body.isSome=true) (hn:(fn.name == "runtime.NumGoroutine")=false) {Γ:Sh7->Cx} (hG:∀ s,(Γ s).glob=Gl) (hc:∀ s,Bj Tryz.prog (Γ s).base∧Ca (Γ s))
  {C:Sh7->A3} (h:∀ s r,(C s).sem=some r->(A0 (Ai tab (Γ s) fn [EY s] [])).sem=some r):An Tryz.prog Gl k (shT C):=by
 refine Al A2 mixed hf hb hn λvs v h' hv=>?_;unfold shT at hv;split at hv
 ·obtain ⟨s,a1,hv⟩:=apS_some hv
  exact ⟨[EY s],Γ s,h',λS w cs hq=>by
   obtain ⟨c,l,rfl,q1,q2⟩:=hq;exact ⟨c,_,rfl,a1 S w c q1,q2⟩,hG s,(hc s).1,(hc s).2,h s _ hv,Ap.refl _⟩
 ·cases hv
def F7 (n:Nat) (f:Nat->Int) (lc:Int):Int:=bif isN (AO (λk=>ieq (f k) lc) n 0) then 0 else wr .i64 (Ah 7 (Int.ofNat (tO (λk=>ieq (f k) lc) n)))
def Agd:List V->A3
 | [.agg [v,.anym],.val (.int .i64 lc)]=>apI v λn f=>.br (Av n) (.leaf (iV (F7 n f lc),[])) .fail
 | _=>.fail
def AmY:Lp:=⟨bmK 21 0 [1,2,4,8,9,10],1,bmK 21 0 [4],0,4611686018427387905⟩
def S61 (n:Nat) (f:Nat->Int) (lc:Int) (c:Int) (a:Unit) (j:Nat->V):St:=⟨jsV 21 0 j [(1,iV lc),(2,.ptr 0 0),(4,iV 0),(8,.sl 1 n (λk=>iV (f k))),(9,nV n),(10,iV c)],[.cells [.sl 1 n (λk=>iV (f k)),.anym]]⟩
noncomputable def B61 (L:LT):St->T (Ex×St):=λst=>A8 tab ⟨Ax tb0,L,Gl⟩ (As Tryz.f61 0) 0 st
def Agw (n:Nat) (f:Nat->Int) (lc:Int) (i:Nat) (a:Unit):Ex×St:=(.rt,⟨jsV 21 0 Ab [(4,iV (wr .i64 (Ah 7 (Int.ofNat i))))],[]⟩)
def g61 (n:Nat) (f:Nat->Int) (lc:Int) (i:Nat) (a:Unit):T ((Unit) ⊕ (Ex×St)):=.br (ieq (f i) lc) (.leaf (.inr (Agw n f lc i a))) (.leaf (.inl ()))
def AnM (n:Nat) (f:Nat->Int) (lc:Int) (a:Unit):Ex×St:=(.ex 0,⟨jsV 21 0 Ab [(4,iV 0)],[]⟩)
theorem r61 (L:LT) (n:Nat) (f:Nat->Int) (lc:Int)  (hn:n <= 4611686018427387904) {e:Ex×St} {a:Unit} {j:Nat->V} (h:Ch (g61 n f lc) (AnM n f lc) n 0 a=some e):(Au (B61 L) AmY 4611686018427387905 (S61 n f lc 0 a j)).sem=some (exR e) :=
 AT BA hn (λi a j r hi h=>DK.ok (L:=goR (S61 n f lc) exR i) (.k (ofNat_lt hi) <| .k (Ae hi) <| .c (λh1=>.k h1 <| .l) λh1=>.k h1 <| .l) (by kernel_rfl) h) (λa j=>DK.ok (C:=.leaf (AnM n f lc a)) (L:=exR) (.k (Az (Nat.le_refl n)) .l) (by kernel_rfl) rfl) (Nat.zero_add _).symm (Nat.lt_succ_of_le hn) h
def AeJ:List (Nat×Lp×List (Nat×(Nat->V))):=[(0,AmY,[])]
theorem Ahr (n:Nat) (f:Nat->Int) (lc:Int) (i:Nat) (_:i<n) (h:(λk=>ieq (f k) lc) i=false):(g61 n f lc i ()).sem=some (.inl ()):=by
 replace h:ieq (f i) lc=false:=h
 show sel (ieq (f i) lc) _ _=_;rw [h];rfl
theorem Ahq (n:Nat) (f:Nat->Int) (lc:Int) (i:Nat) (_:i<n) (h:(λk=>ieq (f k) lc) i=true):(g61 n f lc i ()).sem=some (.inr (Agw n f lc i ())):=by
 replace h:ieq (f i) lc=true:=h
 show sel (ieq (f i) lc) _ _=_;rw [h];rfl
def C61 (n:Nat) (f:Nat->Int) (lc:Int):A3:=.br (isN (AO (λk=>ieq (f k) lc) n 0)) (.leaf ((iV 0),[])) (.leaf ((iV (wr .i64 (Ah 7 (Int.ofNat (tO (λk=>ieq (f k) lc) n))))),[]))
theorem Agq (n:Nat) (f:Nat->Int) (lc:Int):(C61 n f lc).sem=some (iV (F7 n f lc),[]):=by
 unfold C61 F7;cases isN (AO (λk=>ieq (f k) lc) n 0) <;> rfl
theorem p61:An Tryz.prog Gl 61 Agd:=by
 refine Al A2 mixed Tryz.func61 (by kernel_rfl) (by kernel_rfl) λvs v h' h=>?_;unfold Agd at h;split at h
 ·rename_i u lc
  obtain ⟨n,f,ha,h⟩:=D2 h;obtain ⟨hn,h⟩:=Ac h;have:=Aa h;simp only [Prod.mk.injEq] at this;obtain ⟨rfl,rfl⟩:=this;have w:DK (λa=>a) (C61 n f lc) _:=.c (λh1=>.a (r61 (Go.Sy.askL AeJ) n f lc (BU hn) (j:=λ_=>.und) (OI (acc:=λ_=>()) (Ahr n f lc) (Ahq n f lc) h1)) <| .l) λh1=>.a (r61 (Go.Sy.askL AeJ) n f lc (BU hn) (j:=λ_=>.und) (OH (acc:=λ_=>()) (Ahr n f lc) (Ahq n f lc) h1)) <| .l
  have hx:=AU BS AeJ (G:=Gl);exact ⟨_,cxA Gl tb0 AeJ,_,(show Bz [.agg [u,.anym],iV lc] [.agg [.sl 1 n (λk=>iV (f k)),.anym],iV lc] from λS w cs hv=>by
   obtain ⟨c,l,rfl,⟨ca,rfl,c1,l1,rfl,q1,q2⟩,q3⟩:=hv;exact ⟨_,l,rfl,⟨_,rfl,c1,_,rfl,ha S w c1 q1,q2⟩,q3⟩),rfl,hx.1,hx.2,DK.of (Agq n f lc) w (by kernel_rfl),Ap.refl _⟩
 ·cases h
noncomputable def Alt:A9:=(60,JW)::[]
theorem AdN:Ao Tryz.prog Gl Alt:=.cons p25 .nil
noncomputable def Als:A9:=(64,JW)::[]
theorem AdL:Ao Tryz.prog Gl Als:=.cons p39 .nil
def B0 (s:Sh7):Int:=bif D1 s then (bif ieq s.arch 2 then 0 else 5) else 70
def Pz (s:Sh7):A3:=.br (CU s.ne) (.br (Fu s) (.leaf (iV (B0 s),[])) .fail) .fail
def C33 (s:Sh7):A3:=.br (CU s.ne) (.br (Aj (Av s.ne) (Aj (Av s.nx) (Aj (Av s.nr) (Aj (Av s.nc) (Bi s.nc (λi=>Av (s.C i).1)))))) (.br (ieq (sel (D1 s) 0 70) 0) (.br (ieq s.arch 2) (.leaf ((iV 0),[])) (.leaf ((iV 5),[]))) (.leaf ((iV 70),[]))) .fail) .fail
theorem Ads (s:Sh7) (r:V×List Blk) (h:(Pz s).sem=some r):(C33 s).sem=some r:=by
 obtain ⟨h1,h⟩:=Ac h;obtain ⟨h2,h⟩:=Ac h;have h2:Aj (Av s.ne) (Aj (Av s.nx) (Aj (Av s.nr) (Aj (Av s.nc) (Bi s.nc (λi=>Av (s.C i).1)))))=true:=h2;unfold C33;rw [h1,h2];rw [<- h];unfold B0;cases D1 s <;> cases ieq s.arch 2 <;> rfl
theorem p33:An Tryz.prog Gl 33 (shT Pz):=I4 Tryz.func33 (by kernel_rfl) (by kernel_rfl) (Γ:=λ_=>cxA Gl Alt []) (λ_=>rfl) (λ_=>AU AdN [])
 λs r h=>DK.of (Ads s r h) (.k (eL s.ne) <| .k (eL s.nx) <| .k (eL s.nr) <| .k (eL2 s.nc s.C) <| .g λh1=>.k h1 <| .g λh2=>.k h2 <| .c (λh3=>.k (eN h3) <| .c (λh4=>.k (eN h4) <| .l) λh4=>.k (eN h4) <| .l) λh3=>.k (eN h3) <| .l) (by kernel_rfl)
theorem p36:An Tryz.prog Gl 36 (shT Pz):=I4 Tryz.func36 (by kernel_rfl) (by kernel_rfl) (Γ:=λ_=>cxA Gl Als []) (λ_=>rfl) (λ_=>AU AdL [])
 λs r h=>DK.of (Ads s r h) (.k (eL s.ne) <| .k (eL s.nx) <| .k (eL s.nr) <| .k (eL2 s.nc s.C) <| .g λh1=>.k h1 <| .g λh2=>.k h2 <| .c (λh3=>.k (eN h3) <| .c (λh4=>.k (eN h4) <| .l) λh4=>.k (eN h4) <| .l) λh3=>.k (eN h3) <| .l) (by kernel_rfl)
end Go.Proofs.YtkbafjceglhjhaaGreatDoor.Er
