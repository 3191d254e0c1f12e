/-
  Layer 7: whether shapes are the same, the program's (by slices.Equal). No conditions.
-/
import Derived.Test.YtkbafjceglhjhaaGreatDoorShI
import Derived.Test.YtkbafjceglhjhaaGreatDoorShB
namespace Go.Proofs.YtkbafjceglhjhaaGreatDoor.Sh
open Go.Sy Ed
open Int (ofNat)
set_option maxHeartbeats 1000000
set_option maxRecDepth 4000
theorem Agi {n:Nat} {f:Nat->E6} {m:Nat} {g:Nat->E6} (h:ieq (ofNat n) (ofNat m)=false):DZ n f m g=false:=by
 unfold DZ;rw [h];rfl
theorem AdZ {a b:E6}:eqE a b=true↔a=b:=by
 have h:=@HB 1 (λ_=>a) 1 (λ_=>b);have e:DZ 1 (λ_=>a) 1 (λ_=>b)=eqE a b:=by
  show sel (eqE a b) true false=_;cases eqE a b <;> rfl
 rw [e] at h;exact ⟨λhh=>(h.1 hh).2 0 (by omega),λhh=>h.2 ⟨rfl,λ_ _=>hh⟩⟩
theorem Agh {n:Nat} {f:Nat->E6} {m:Nat} {g:Nat->E6} (h:ieq (ofNat n) (ofNat m)=true):DZ n f m g=AV n λk=>eqE (f k) (g k):=by
 rw [Bool.eq_iff_iff,HB,A8];exact ⟨λhh k hk=>AdZ.2 (hh.2 k hk),λhh=>⟨Ck h,λk hk=>AdZ.1 (hh k hk)⟩⟩
def QC (n:Nat) (f:Nat->Ev5) (m:Nat) (g:Nat->Ev5):Bool:=Al (ieq (ofNat n) (ofNat m)) (AV n λk=>IE (f k) (g k))
def W3:List V->A5
 | [v,u]=>apG codE v λn f=>apG codE u λm g=>.br (Aq n) (.leaf (bV (DZ n f m g),[])) .fail
 | _=>.fail
def W1:List V->A5
 | [v,u]=>apG TB v λn f=>apG TB u λm g=>.br (Aq n) (.leaf (bV (QC n f m g),[])) .fail
 | _=>.fail
def Sf:List V->A5
 | [v,u,.fn 145 []]=>apG codJ v λn C=>apG codJ u λm D=>.br (Aq n) (.br (AV n λi=>Aq (C i).1) (.leaf (bV (FS n (λi=>(C i).1) (λi=>(C i).2) m (λi=>(D i).1) (λi=>(D i).2)),[])) .fail) .fail
 | _=>.fail
def ApE:Lp:=⟨bmK 26 0 [0,1,4,12,13],0,bmK 26 0 [4],0,4611686018427387905⟩
def S89 (n:Nat) (f:Nat->E6) (m:Nat) (g:Nat->E6) (c:Int) (a:Unit) (j:Nat->V):St:=⟨jsV 26 0 j [(0,.sl 6 n (λi=>eV (f i))),(1,.sl 6 m (λi=>eV (g i))),(4,bV false),(12,nV n),(13,iV c)],[]⟩
noncomputable def B89 (L:LT):St->T (Ex×St):=λst=>AA tab ⟨Aw tb0,L,Gl⟩ (As Tryz.f143 0) 0 st
def Anc (n:Nat) (f:Nat->E6) (m:Nat) (g:Nat->E6) (i:Nat) (a:Unit):Ex×St:=(.rt,⟨jsV 26 0 Aa [(4,bV false)],[]⟩)
def g89 (n:Nat) (f:Nat->E6) (m:Nat) (g:Nat->E6) (i:Nat) (a:Unit):T ((Unit) ⊕ (Ex×St)):=.br (eqE (f i) (g i)) (.leaf (.inl ())) (.leaf (.inr (Anc n f m g i a)))
def Aqz (n:Nat) (f:Nat->E6) (m:Nat) (g:Nat->E6) (a:Unit):Ex×St:=(.ex 0,⟨jsV 26 0 Aa [(4,bV false)],[]⟩)
theorem r89 (L:LT) (n:Nat) (f:Nat->E6) (m:Nat) (g:Nat->E6) (hm:n=m) (hn:n <= 4611686018427387904) {e:Ex×St} {a:Unit} {j:Nat->V} (h:Co (g89 n f m g) (Aqz n f m g) n 0 a=some e):(Av (B89 L) ApE 4611686018427387905 (S89 n f m g 0 a j)).sem=some (exR e) :=
 AZ BF hn (λi a j r hi h=>DK.ok (L:=goR (S89 n f m g) exR i) (.k (ofNat_lt hi) <| .k (Ad hi) <| .k (Ad (hm ▸ hi)) <| .c (λh1=>.k (eN h1) <| .l) λh1=>.k (eN h1) <| .l) (by kernel_rfl) h) (λa j=>DK.ok (C:=.leaf (Aqz n f m g a)) (L:=exR) (.k (A1 (Nat.le_refl n)) .l) (by kernel_rfl) rfl) (Nat.zero_add _).symm (Nat.lt_succ_of_le hn) h
def AgC:List (Nat×Lp×List (Nat×(Nat->V))):=[(0,ApE,[])]
def C89 (n:Nat) (f:Nat->E6) (m:Nat) (g:Nat->E6):A5:=.br (ieq (ofNat n) (ofNat m)) (.br (AV n λk=>eqE (f k) (g k)) (.leaf ((bV true),[])) (.leaf ((bV false),[]))) (.leaf ((bV false),[]))
theorem Aif (n:Nat) (f:Nat->E6) (m:Nat) (g:Nat->E6):(C89 n f m g).sem=some (bV (DZ n f m g),[]):=by
 unfold C89;cases h:ieq (ofNat n) (ofNat m)
 ·rw [Agi h]; rfl
 rw [Agh h];cases AV n λk=>eqE (f k) (g k) <;> rfl
theorem p103:Ap Tryz.prog Gl 143 W3:=by
 refine Ah A2 mixed Tryz.func143 (by kernel_rfl) (by kernel_rfl) λvs v h' h=>?_;unfold W3 at h;split at h
 ·rename_i v1 u1
  obtain ⟨n,f,a1,h⟩:=B0 h;obtain ⟨m,g,a2,h⟩:=B0 h;obtain ⟨hn,h⟩:=Ac h;have:=Ab h;simp only [Prod.mk.injEq] at this;obtain ⟨rfl,rfl⟩:=this;have w:DK (λa=>a) (C89 n f m g) _:=.c (λh1=>.k (eN h1) <| .c (λh2=>.a (r89 (askL AgC) n f m g (Ck h1) (BM hn) (j:=λ_=>.und) (PW (λ_ _=>rfl) h2)) <| .l) λh2=>.a (r89 (askL AgC) n f m g (Ck h1) (BM hn) (j:=λ_=>.und) (PX (λ_ _=>rfl) h2)) <| .l) λh1=>.k (eN h1) <| .l
  have hx:=AS Ca AgC (G:=Gl);exact ⟨_,cxA Gl tb0 AgC,_,(show Ba [v1,u1] [Ei codE n f,Ei codE m g] from λS w cs hv=>by
   obtain ⟨c,l,rfl,q1,c',l',rfl,q2,q3⟩:=hv;exact ⟨c,_,rfl,a1 S w c q1,c',l',rfl,a2 S w c' q2,q3⟩),rfl,hx.1,hx.2,DK.of (Aif n f m g) w (by kernel_rfl),Am.refl _⟩
 ·cases h
def ApD:Lp:=⟨bmK 26 0 [0,1,4,12,13],0,bmK 26 0 [4],0,4611686018427387905⟩
def S90 (n:Nat) (f:Nat->Ev5) (m:Nat) (g:Nat->Ev5) (c:Int) (a:Unit) (j:Nat->V):St:=⟨jsV 26 0 j [(0,.sl 5 n (λi=>evV (f i))),(1,.sl 5 m (λi=>evV (g i))),(4,bV false),(12,nV n),(13,iV c)],[]⟩
noncomputable def B90 (L:LT):St->T (Ex×St):=λst=>AA tab ⟨Aw tb0,L,Gl⟩ (As Tryz.f144 0) 0 st
def Anb (n:Nat) (f:Nat->Ev5) (m:Nat) (g:Nat->Ev5) (i:Nat) (a:Unit):Ex×St:=(.rt,⟨jsV 26 0 Aa [(4,bV false)],[]⟩)
def g90 (n:Nat) (f:Nat->Ev5) (m:Nat) (g:Nat->Ev5) (i:Nat) (a:Unit):T ((Unit) ⊕ (Ex×St)):=.br (Al (ieq (f i).th (g i).th) (Al (ieq (f i).pl (g i).pl) (Al (ieq (f i).dir (g i).dir) (Al (ieq (f i).loc (g i).loc) (Al (ieq (f i).val (g i).val) true))))) (.leaf (.inl ())) (.leaf (.inr (Anb n f m g i a)))
def Aqy (n:Nat) (f:Nat->Ev5) (m:Nat) (g:Nat->Ev5) (a:Unit):Ex×St:=(.ex 0,⟨jsV 26 0 Aa [(4,bV false)],[]⟩)
theorem r90 (L:LT) (n:Nat) (f:Nat->Ev5) (m:Nat) (g:Nat->Ev5) (hm:n=m) (hn:n <= 4611686018427387904) {e:Ex×St} {a:Unit} {j:Nat->V} (h:Co (g90 n f m g) (Aqy n f m g) n 0 a=some e):(Av (B90 L) ApD 4611686018427387905 (S90 n f m g 0 a j)).sem=some (exR e) :=
 AZ BF hn (λi a j r hi h=>DK.ok (L:=goR (S90 n f m g) exR i) (.k (ofNat_lt hi) <| .k (Ad hi) <| .k (Ad (hm ▸ hi)) <| .c (λh1=>.k (eN h1) <| .l) λh1=>.k (eN h1) <| .l) (by kernel_rfl) h) (λa j=>DK.ok (C:=.leaf (Aqy n f m g a)) (L:=exR) (.k (A1 (Nat.le_refl n)) .l) (by kernel_rfl) rfl) (Nat.zero_add _).symm (Nat.lt_succ_of_le hn) h
def AgB:List (Nat×Lp×List (Nat×(Nat->V))):=[(0,ApD,[])]
def C90 (n:Nat) (f:Nat->Ev5) (m:Nat) (g:Nat->Ev5):A5:=.br (ieq (ofNat n) (ofNat m)) (.br (AV n λk=>IE (f k) (g k)) (.leaf ((bV true),[])) (.leaf ((bV false),[]))) (.leaf ((bV false),[]))
theorem Aie (n:Nat) (f:Nat->Ev5) (m:Nat) (g:Nat->Ev5):(C90 n f m g).sem=some (bV (QC n f m g),[]):=by
 unfold C90;unfold QC;cases ieq (ofNat n) (ofNat m)
 ·rfl
 cases AV n λk=>IE (f k) (g k) <;> rfl
theorem p104:Ap Tryz.prog Gl 144 W1:=by
 refine Ah A2 mixed Tryz.func144 (by kernel_rfl) (by kernel_rfl) λvs v h' h=>?_;unfold W1 at h;split at h
 ·rename_i v1 u1
  obtain ⟨n,f,a1,h⟩:=B0 h;obtain ⟨m,g,a2,h⟩:=B0 h;obtain ⟨hn,h⟩:=Ac h;have:=Ab h;simp only [Prod.mk.injEq] at this;obtain ⟨rfl,rfl⟩:=this;have w:DK (λa=>a) (C90 n f m g) _:=.c (λh1=>.k (eN h1) <| .c (λh2=>.a (r90 (askL AgB) n f m g (Ck h1) (BM hn) (j:=λ_=>.und) (PW (λ_ _=>rfl) h2)) <| .l) λh2=>.a (r90 (askL AgB) n f m g (Ck h1) (BM hn) (j:=λ_=>.und) (PX (λ_ _=>rfl) h2)) <| .l) λh1=>.k (eN h1) <| .l
  have hx:=AS Ca AgB (G:=Gl);exact ⟨_,cxA Gl tb0 AgB,_,(show Ba [v1,u1] [Ei TB n f,Ei TB m g] from λS w cs hv=>by
   obtain ⟨c,l,rfl,q1,c',l',rfl,q2,q3⟩:=hv;exact ⟨c,_,rfl,a1 S w c q1,c',l',rfl,a2 S w c' q2,q3⟩),rfl,hx.1,hx.2,DK.of (Aie n f m g) w (by kernel_rfl),Am.refl _⟩
 ·cases h
def ApC:Lp:=⟨bmK 26 0 [0,1,4,12,13],0,bmK 26 0 [4],0,4611686018427387905⟩
def S91 (n:Nat) (f:Nat->Int) (m:Nat) (g:Nat->Int) (c:Int) (a:Unit) (j:Nat->V):St:=⟨jsV 26 0 j [(0,.sl 1 n (λi=>iV (f i))),(1,.sl 1 m (λi=>iV (g i))),(4,bV false),(12,nV n),(13,iV c)],[]⟩
noncomputable def B91 (L:LT):St->T (Ex×St):=λst=>AA tab ⟨Aw tb0,L,Gl⟩ (As Tryz.f145 0) 0 st
def Ana (n:Nat) (f:Nat->Int) (m:Nat) (g:Nat->Int) (i:Nat) (a:Unit):Ex×St:=(.rt,⟨jsV 26 0 Aa [(4,bV false)],[]⟩)
def g91 (n:Nat) (f:Nat->Int) (m:Nat) (g:Nat->Int) (i:Nat) (a:Unit):T ((Unit) ⊕ (Ex×St)):=.br (ieq (f i) (g i)) (.leaf (.inl ())) (.leaf (.inr (Ana n f m g i a)))
def Aqx (n:Nat) (f:Nat->Int) (m:Nat) (g:Nat->Int) (a:Unit):Ex×St:=(.ex 0,⟨jsV 26 0 Aa [(4,bV false)],[]⟩)
theorem r91 (L:LT) (n:Nat) (f:Nat->Int) (m:Nat) (g:Nat->Int) (hm:n=m) (hn:n <= 4611686018427387904) {e:Ex×St} {a:Unit} {j:Nat->V} (h:Co (g91 n f m g) (Aqx n f m g) n 0 a=some e):(Av (B91 L) ApC 4611686018427387905 (S91 n f m g 0 a j)).sem=some (exR e) :=
 AZ BF hn (λi a j r hi h=>DK.ok (L:=goR (S91 n f m g) exR i) (.k (ofNat_lt hi) <| .k (Ad hi) <| .k (Ad (hm ▸ hi)) <| .c (λh1=>.k (eN h1) <| .l) λh1=>.k (eN h1) <| .l) (by kernel_rfl) h) (λa j=>DK.ok (C:=.leaf (Aqx n f m g a)) (L:=exR) (.k (A1 (Nat.le_refl n)) .l) (by kernel_rfl) rfl) (Nat.zero_add _).symm (Nat.lt_succ_of_le hn) h
def AgA:List (Nat×Lp×List (Nat×(Nat->V))):=[(0,ApC,[])]
def C91 (n:Nat) (f:Nat->Int) (m:Nat) (g:Nat->Int):A5:=.br (ieq (ofNat n) (ofNat m)) (.br (AV n λk=>ieq (f k) (g k)) (.leaf ((bV true),[])) (.leaf ((bV false),[]))) (.leaf ((bV false),[]))
theorem Aid (n:Nat) (f:Nat->Int) (m:Nat) (g:Nat->Int):(C91 n f m g).sem=some (bV (Ef n f m g),[]):=by
 unfold C91;unfold Ef;cases ieq (ofNat n) (ofNat m)
 ·rfl
 cases AV n λk=>ieq (f k) (g k) <;> rfl
theorem Apl:Ap Tryz.prog Gl 145 IS:=by
 refine Ah A2 mixed Tryz.func145 (by kernel_rfl) (by kernel_rfl) λvs v h' h=>?_;unfold IS at h;split at h
 ·rename_i v1 u1
  obtain ⟨n,f,a1,h⟩:=B0 h;obtain ⟨m,g,a2,h⟩:=B0 h;obtain ⟨hn,h⟩:=Ac h;have:=Ab h;simp only [Prod.mk.injEq] at this;obtain ⟨rfl,rfl⟩:=this;have w:DK (λa=>a) (C91 n f m g) _:=.c (λh1=>.k (eN h1) <| .c (λh2=>.a (r91 (askL AgA) n f m g (Ck h1) (BM hn) (j:=λ_=>.und) (PW (λ_ _=>rfl) h2)) <| .l) λh2=>.a (r91 (askL AgA) n f m g (Ck h1) (BM hn) (j:=λ_=>.und) (PX (λ_ _=>rfl) h2)) <| .l) λh1=>.k (eN h1) <| .l
  have hx:=AS Ca AgA (G:=Gl);exact ⟨_,cxA Gl tb0 AgA,_,(show Ba [v1,u1] [Ei LF n f,Ei LF m g] from λS w cs hv=>by
   obtain ⟨c,l,rfl,q1,c',l',rfl,q2,q3⟩:=hv;exact ⟨c,_,rfl,a1 S w c q1,c',l',rfl,a2 S w c' q2,q3⟩),rfl,hx.1,hx.2,DK.of (Aid n f m g) w (by kernel_rfl),Am.refl _⟩
 ·cases h
noncomputable def tb106:A7:=(145,IS)::[]
theorem tb106_ok:Ao Tryz.prog Gl tb106:=.cons Apl .nil
def AiU:Lp:=⟨bmK 32 0 [0,1,2,6,15,16,17],0,bmK 32 0 [6],0,4611686018427387905⟩
def AqT (n:Nat) (C:Nat->Nat×(Nat->Int)) (m:Nat) (D:Nat->Nat×(Nat->Int)) (c:Int) (a:Unit) (j:Nat->V):St:=⟨jsV 32 0 j [(0,.sl 1 n (λu=>.sl 1 (C u).1 (λi=>iV ((C u).2 i)))),(1,.sl 1 m (λu=>.sl 1 (D u).1 (λi=>iV ((D u).2 i)))),(2,.fn 145 []),(6,bV false),(15,.sl 1 n (λu=>.sl 1 (C u).1 (λi=>iV ((C u).2 i)))),(16,nV n),(17,iV c)],[]⟩
noncomputable def Atl (L:LT):St->T (Ex×St):=λst=>AA tab ⟨Aw tb106,L,Gl⟩ (As Tryz.f146 0) 0 st
def AjI (n:Nat) (C:Nat->Nat×(Nat->Int)) (m:Nat) (D:Nat->Nat×(Nat->Int)) (i:Nat) (a:Unit):Ex×St:=(.rt,⟨jsV 32 0 Aa [(6,bV false)],[]⟩)
def AsG (n:Nat) (C:Nat->Nat×(Nat->Int)) (m:Nat) (D:Nat->Nat×(Nat->Int)) (i:Nat) (a:Unit):T ((Unit) ⊕ (Ex×St)):=.br (Ef (C i).1 (C i).2 (D i).1 (D i).2) (.leaf (.inl ())) (.leaf (.inr (AjI n C m D i a)))
def Ajr (n:Nat) (C:Nat->Nat×(Nat->Int)) (m:Nat) (D:Nat->Nat×(Nat->Int)) (a:Unit):Ex×St:=(.ex 0,⟨jsV 32 0 Aa [(6,bV false)],[]⟩)
theorem AoM (L:LT) (n:Nat) (C:Nat->Nat×(Nat->Int)) (m:Nat) (D:Nat->Nat×(Nat->Int)) (hm:n=m) (hs:(AV n λk=>Aq (C k).1)=true) (hn:n <= 4611686018427387904) {e:Ex×St} {a:Unit} {j:Nat->V} (h:Co (AsG n C m D) (Ajr n C m D) n 0 a=some e):(Av (Atl L) AiU 4611686018427387905 (AqT n C m D 0 a j)).sem=some (exR e) :=
 AZ BF hn (λi a j r hi h=>DK.ok (L:=goR (AqT n C m D) exR i) (.k (ofNat_lt hi) <| .k (Ad hi) <| .k (Ad (hm ▸ hi)) <| .k (eL (C i).1) <| .k (eL (D i).1) <| .k (A8.1 hs i hi) <| .c (λh1=>.k (eN h1) <| .l) λh1=>.k (eN h1) <| .l) (by kernel_rfl) h) (λa j=>DK.ok (C:=.leaf (Ajr n C m D a)) (L:=exR) (.k (A1 (Nat.le_refl n)) .l) (by kernel_rfl) rfl) (Nat.zero_add _).symm (Nat.lt_succ_of_le hn) h
def Y2:List (Nat×Lp×List (Nat×(Nat->V))):=[(0,AiU,[])]
def AmX (n:Nat) (C:Nat->Nat×(Nat->Int)) (m:Nat) (D:Nat->Nat×(Nat->Int)):A5:=.br (ieq (ofNat n) (ofNat m)) (.br (AV n λk=>Ef (C k).1 (C k).2 (D k).1 (D k).2) (.leaf ((bV true),[])) (.leaf ((bV false),[]))) (.leaf ((bV false),[]))
theorem Afg (n:Nat) (C:Nat->Nat×(Nat->Int)) (m:Nat) (D:Nat->Nat×(Nat->Int)):(AmX n C m D).sem=some (bV (FS n (λi=>(C i).1) (λi=>(C i).2) m (λi=>(D i).1) (λi=>(D i).2)),[]):=by
 unfold AmX FS;cases ieq (ofNat n) (ofNat m)
 ·rfl
 cases AV n λk=>Ef (C k).1 (C k).2 (D k).1 (D k).2 <;> rfl
theorem Asx:Ap Tryz.prog Gl 146 Sf:=by
 refine Ah A2 mixed Tryz.func146 (by kernel_rfl) (by kernel_rfl) λvs v h' h=>?_;unfold Sf at h;split at h
 ·rename_i v1 u1
  obtain ⟨n,C,a1,h⟩:=B0 h;obtain ⟨m,D,a2,h⟩:=B0 h;obtain ⟨hn,h⟩:=Ac h;obtain ⟨hs,h⟩:=Ac h;have:=Ab h;simp only [Prod.mk.injEq] at this;obtain ⟨rfl,rfl⟩:=this;have w:DK (λa=>a) (AmX n C m D) _:=.c (λh1=>.k (eN h1) <| .c (λh2=>.a (AoM (askL Y2) n C m D (Ck h1) hs (BM hn) (j:=λ_=>.und) (PW (λ_ _=>rfl) h2)) <| .l) λh2=>.a (AoM (askL Y2) n C m D (Ck h1) hs (BM hn) (j:=λ_=>.und) (PX (λ_ _=>rfl) h2)) <| .l) λh1=>.k (eN h1) <| .l
  have hx:=AS tb106_ok Y2 (G:=Gl);exact ⟨_,cxA Gl tb106 Y2,_,(show Ba [v1,u1,.fn 145 []] [.sl 1 n (λu=>.sl 1 (C u).1 (λi=>iV ((C u).2 i))),.sl 1 m (λu=>.sl 1 (D u).1 (λi=>iV ((D u).2 i))),.fn 145 []] from λS w cs hv=>by
   obtain ⟨c,l,rfl,q1,c',l',rfl,q2,q3⟩:=hv;exact ⟨c,_,rfl,a1 S w c q1,c',l',rfl,a2 S w c' q2,q3⟩),rfl,hx.1,hx.2,DK.of (Afg n C m D) w (by kernel_rfl),Am.refl _⟩
 ·cases h
noncomputable def AnP:A7:=(143,W3)::(144,W1)::(145,IS)::(146,Sf)::[]
theorem Af2:Ao Tryz.prog Gl AnP:=.cons p103 <| .cons p104 <| .cons Apl <| .cons Asx .nil
theorem Agg (a b c d e i j k:Bool):Al a (Al b (Al c (Al d (Al e (Al i (Al j k))))))=Al a (Al b (Al c (Al d (Al (Al e k) (Al i (Al j true)))))):=by
 cases a <;> cases b <;> cases c <;> cases d <;> cases e <;> cases i <;> cases j <;> cases k <;> rfl
def C58 (s s':Sh7):A5:=.br (ieq s.arch s'.arch) (.br (ieq s.tt s'.tt) (.br (ieq s.kk s'.kk) (.br (DZ s.ne (λi=>s.E i) s'.ne (λi=>s'.E i)) (.br (QC s.nx (λi=>s.X i) s'.nx (λi=>s'.X i)) (.br (Ef s.nr s.R s'.nr s'.R) (.leaf ((bV (FS s.nc (λi=>(s.C i).1) (λi i_1=>(s.C i).2 i_1) s'.nc (λi=>(s'.C i).1) (λi i_1=>(s'.C i).2 i_1))),[])) (.leaf ((bV false),[]))) (.leaf ((bV false),[]))) (.leaf ((bV false),[]))) (.leaf ((bV false),[]))) (.leaf ((bV false),[]))) (.leaf ((bV false),[]))
theorem Aij (s s':Sh7):(C58 s s').sem=some (bV (IF s s'),[]):=by
 unfold C58 IF;rw [Agg];show _=some (bV (Al _ (Al _ (Al _ (Al _ (Al (QC s.nx s.X s'.nx s'.X) _))))),[]);cases ieq s.arch s'.arch
 ·rfl
 cases ieq s.tt s'.tt
 ·rfl
 cases ieq s.kk s'.kk
 ·rfl
 cases DZ s.ne s.E s'.ne s'.E
 ·rfl
 cases QC s.nx s.X s'.nx s'.X
 ·rfl
 cases Ef s.nr s.R s'.nr s'.R
 ·rfl
 cases FS s.nc (λi=>(s.C i).1) (λi=>(s.C i).2) s'.nc (λi=>(s'.C i).1) (λi=>(s'.C i).2) <;> rfl
theorem p72:Ap Tryz.prog Gl 100 Kl:=by
 refine Ah A2 mixed Tryz.func100 (by kernel_rfl) (by kernel_rfl) λvs v h' h=>?_;unfold Kl at h;split at h
 ·rename_i v1 u1
  obtain ⟨s,a1,h⟩:=apS_some h;obtain ⟨s',a2,h⟩:=apS_some h;obtain ⟨hn,h⟩:=Ac h;have:=Ab h;simp only [Prod.mk.injEq] at this;obtain ⟨rfl,rfl⟩:=this;have hn:Aq s.ne=true∧Aq s.nx=true∧Aq s.nr=true∧Aq s.nc=true∧(AV s.nc λi=>Aq (s.C i).1)=true:=by simpa [D7,Al] using hn
  obtain ⟨n1,n2,n3,n4,n5⟩:=hn;have w:DK (λa=>a) (C58 s s') _:=.c (λh1=>.r 6 h1 <| .c (λh2=>.r 6 h2 <| .c (λh3=>.r 5 h3 <| .k (eL s.ne) <| .k (eL s'.ne) <| .k n1 <| .k h3 <| .c (λh4=>.r 5 h4 <| .k (eL s.nx) <| .k (eL s'.nx) <| .k n2 <| .k h4 <| .c (λh5=>.r 5 h5 <| .k (eL s.nr) <| .k (eL s'.nr) <| .k n3 <| .k h5 <| .c (λh6=>.r 5 h6 <| .k (eL2 s.nc s.C) <| .k (eL2 s'.nc s'.C) <| .k n4 <| .k n5 <| .k h6 <| .l) λh6=>.r 6 h6 <| .l) λh5=>.r 6 h5 <| .r 6 eF <| .l) λh4=>.r 6 h4 <| .r 12 eF <| .l) λh3=>.r 6 h3 <| .r 18 eF <| .l) λh2=>.r 6 h2 <| .r 24 eF <| .l) λh1=>.r 6 h1 <| .r 30 eF <| .l
  have hx:=AS Af2 [] (G:=Gl);exact ⟨_,cxA Gl AnP [],_,(show Ba [v1,u1] [EC s,EC s'] from λS w cs hv=>by
   obtain ⟨c,l,rfl,q1,c',l',rfl,q2,q3⟩:=hv;exact ⟨c,_,rfl,a1 S w c q1,c',l',rfl,a2 S w c' q2,q3⟩),rfl,hx.1,hx.2,DK.of (Aij s s') w (by kernel_rfl),Am.refl _⟩
 ·cases h
end Go.Proofs.YtkbafjceglhjhaaGreatDoor.Sh
namespace Go.Proofs.YtkbafjceglhjhaaGreatDoor.Sh
open Go.Sy Ed
open Int (ofNat)
set_option maxHeartbeats 1000000
set_option maxRecDepth 4000
def ofS (a:Int) (n:Nat) (f:Nat->E6):Sh7:=⟨a,n,shG n f,n,evF n (shG n f) (λ_=>true),ofNat (ttN n (shG n f)),ofNat (kkN n (shG n f)),n,rfF n (shG n f) (λ_=>true),kkN n (shG n f),
 λk=>(lnN (mbF (shG n f)) (wrF (shG n f)) n k,λi=>ofNat (coN (mbF (shG n f)) (wrF (shG n f)) n k i))⟩
def BU (s:Sh7):Bool:=Al (ieq (Hu s.arch s.ne s.E) 0) (IF s (ofS s.arch s.ne s.E))
def K2:List V->A5
 | [v]=>apS v λs=>.br (Ct s.ne) (.br (D7 s) (.leaf (iV (sel (BU s) 0 70),[])) .fail) .fail
 | _=>.fail
theorem Ae3 {a:Int} {n:Nat} {f:Nat->E6} (h:ilt 16 (ofNat n)=true):ieq (Hu a n f) 0=false:=by
 cases hc:ieq (Hu a n f) 0 with
 | false=>rfl
 | true =>have:=(Bt hc).hi;rw [show (16:Int)=ofNat 16 from rfl,Cw] at h;have:=of_decide_eq_true h;omega
noncomputable def AfJ:A7:=(99,ofT)::(100,Kl)::[]
theorem AfI:Ao Tryz.prog Gl AfJ:=.cons p14 <| .cons p72 .nil
noncomputable def AfD:A7:=(68,ofT)::(102,Kl)::[]
theorem AfC:Ao Tryz.prog Gl AfD:=.cons p15 <| .cons p16 .nil
section
variable (L:LT) (a:Int) (n:Nat) (g:Nat->E6) (m:Nat) (x:Nat->Ev5) (t k:Int) (p:Nat) (r:Nat->Int) (q:Nat) (ln:Nat->Nat) (co:Nat->Nat->Int)
include L a n g m x t k p r q ln co
theorem Arv (h17:Ct n=true) (h0:ieq (Hu a n g) 0=true) (h18:BO [.cells (shL a n g m x t k p r q ln co),.row 76 6 n (λi=>eV (shG n g i)),.row 74 5 n (λi=>evV (evF n (shG n g) (λ_=>true) i)),.row 3 1 n (λi=>iV (rfF n (shG n g) (λ_=>true) i)),.jag (Jag.mk 24 1 (kkN n (shG n g)) Aa 0 3 1 (λ_=>true) (lnN (mbF (shG n g)) (wrF (shG n g)) n) (λk i=>iV (ofNat (coN (mbF (shG n g)) (wrF (shG n g)) n k i))) none),.cells [iV a,.ref 1,.ref 2,iV (ofNat (ttN n (shG n g))),iV (ofNat (kkN n (shG n g))),.ref 3,.jref 4]]=true) (h19:AV q (λi=>AV (ln i) (λ_=>true))=true) (h20:AV (kkN n (shG n g)) (λi=>AV (lnN (mbF (shG n g)) (wrF (shG n g)) n i) (λ_=>true))=true) (h21:Aq n=true) (h22:Aq m=true) (h23:Aq p=true) (h24:Aq q=true) (h25:AV q (λi=>Aq (ln i))=true) (h1:Al (ieq a a) (Al (ieq t (ofNat (ttN n (shG n g)))) (Al (ieq k (ofNat (kkN n (shG n g)))) (Al (DZ n g n (λi=>shG n g i)) (Al (ieq (ofNat m) (ofNat n)) (Al (Ef p r n (rfF n (shG n g) (λ_=>true))) (Al (FS q ln (λi i_1=>co i i_1) (kkN n (shG n g)) (lnN (mbF (shG n g)) (wrF (shG n g)) n) (λi i_1=>ofNat (coN (mbF (shG n g)) (wrF (shG n g)) n i i_1))) (AV m (λk=>IE (x k) (evF n (shG n g) (λ_=>true) k)))))))))=false):(A0 (Aj tab ⟨Aw AfJ,L,Gl⟩ Tryz.f60 [.agg (shL a n g m x t k p r q ln co)] [])).sem=some ((iV 70),[]):=by
 exact Ae (ks:=[kL n,kn h17,kn h0,kN (kI 0),kN (kI 0),kN (kI 0),kn h18,kL n,kL m,kL p,kn h19,kL n,kL n,kL n,kn h20,kA (kn h21) (kA (kn h22) (kA (kn h23) (kA (kn h24) (kn h25)))),kN (kI 0),kN (kI 0),kN (kn h1)]) (by kernel_rfl)
theorem Aru (h17:Ct n=true) (h0:ieq (Hu a n g) 0=true) (h18:BO [.cells (shL a n g m x t k p r q ln co),.row 76 6 n (λi=>eV (shG n g i)),.row 74 5 n (λi=>evV (evF n (shG n g) (λ_=>true) i)),.row 3 1 n (λi=>iV (rfF n (shG n g) (λ_=>true) i)),.jag (Jag.mk 24 1 (kkN n (shG n g)) Aa 0 3 1 (λ_=>true) (lnN (mbF (shG n g)) (wrF (shG n g)) n) (λk i=>iV (ofNat (coN (mbF (shG n g)) (wrF (shG n g)) n k i))) none),.cells [iV a,.ref 1,.ref 2,iV (ofNat (ttN n (shG n g))),iV (ofNat (kkN n (shG n g))),.ref 3,.jref 4]]=true) (h19:AV q (λi=>AV (ln i) (λ_=>true))=true) (h20:AV (kkN n (shG n g)) (λi=>AV (lnN (mbF (shG n g)) (wrF (shG n g)) n i) (λ_=>true))=true) (h21:Aq n=true) (h22:Aq m=true) (h23:Aq p=true) (h24:Aq q=true) (h25:AV q (λi=>Aq (ln i))=true) (h1:Al (ieq a a) (Al (ieq t (ofNat (ttN n (shG n g)))) (Al (ieq k (ofNat (kkN n (shG n g)))) (Al (DZ n g n (λi=>shG n g i)) (Al (ieq (ofNat m) (ofNat n)) (Al (Ef p r n (rfF n (shG n g) (λ_=>true))) (Al (FS q ln (λi i_1=>co i i_1) (kkN n (shG n g)) (lnN (mbF (shG n g)) (wrF (shG n g)) n) (λi i_1=>ofNat (coN (mbF (shG n g)) (wrF (shG n g)) n i i_1))) (AV m (λk=>IE (x k) (evF n (shG n g) (λ_=>true) k)))))))))=true):(A0 (Aj tab ⟨Aw AfJ,L,Gl⟩ Tryz.f60 [.agg (shL a n g m x t k p r q ln co)] [])).sem=some ((iV 0),[]):=by
 exact Ae (ks:=[kL n,kn h17,kn h0,kN (kI 0),kN (kI 0),kN (kI 0),kn h18,kL n,kL m,kL p,kn h19,kL n,kL n,kL n,kn h20,kA (kn h21) (kA (kn h22) (kA (kn h23) (kA (kn h24) (kn h25)))),kN (kI 0),kN (kI 0),kN (kn h1)]) (by kernel_rfl)
end
theorem p25:Ap Tryz.prog Gl 60 K2:=by
 refine Ah A2 mixed Tryz.func60 (by kernel_rfl) (by kernel_rfl) λvs v h' h=>?_;unfold K2 at h;split at h
 ·rename_i v1
  obtain ⟨s,a1,h⟩:=apS_some h;obtain ⟨hf,h⟩:=Ac h;obtain ⟨hn,h⟩:=Ac h;have:=Ab h;simp only [Prod.mk.injEq] at this;obtain ⟨rfl,rfl⟩:=this;obtain ⟨a,n,g,m,x,t,k,p,r,q,C⟩:=s;have hA:Ba [v1] [.agg [iV a,.sl 6 n (λi=>eV (g i)),.sl 5 m (λi=>evV (x i)),iV t,iV k,.sl 1 p (λi=>iV (r i)),.sl 1 q (λu=>.sl 1 (C u).1 (λi=>iV ((C u).2 i)))]]:=λS w cs hv=>by
   obtain ⟨c,l,rfl,q1,q2⟩:=hv;exact ⟨c,_,rfl,a1 S w c q1,q2⟩
  have hn:Aq n=true∧Aq m=true∧Aq p=true∧Aq q=true∧(AV q λi=>Aq (C i).1)=true:=by simpa [D7,Al] using hn
  obtain ⟨n1,n2,n3,n4,n5⟩:=hn;have hx:=Bh AfI [] (G:=Gl);refine ⟨_,AO Gl AfJ [],_,hA,rfl,hx.1,hx.2,?_,Am.refl _⟩;have all2:∀ (q:Nat) (ln:Nat->Nat),(AV q λi=>AV (ln i) λ_=>true)=true:=λ_ _=>A8.2 λ_ _=>A8.2 λ_ _=>rfl;show _=some (iV (sel (BU ⟨a,n,g,m,x,t,k,p,r,q,C⟩) 0 70),_);revert n5;generalize hln:(λi=>(C i).1)=ln;generalize hco:(λi=>(C i).2)=co;have e1:∀ u,(C u).1=ln u:=λu=>by rw [<- hln]
  have e2:∀ u,(C u).2=co u:=λu=>by rw [<- hco]
  have hC:C=λu=>(ln u,co u):=by
   funext u;rw [<- e1,<- e2]
  intro n5;simp only [e1,e2] at n5 ⊢;subst hC;cases hc:ieq (Hu a n g) 0 with
  | false =>rw [show BU _=false from XG hc];exact Ae (ks:=[kL n,kn hf,kn hc,kN (kn hc),kN (kn hc),kN (kn hc),kN (kn hc),kN (kn hc),kT]) (by kernel_rfl)/-W:w25e-/
  | true =>
   rw [show BU _=_ from FP hc];cases hs:IF ⟨a,n,g,m,x,t,k,p,r,q,λu=>(ln u,co u)⟩ (ofS a n g) with
   | false=>exact Arv _ a n g m x t k p r q ln co hf hc (by simp [BO]) (all2 _ _) (all2 _ _) n1 n2 n3 n4 n5 hs
   | true=>exact Aru _ a n g m x t k p r q ln co hf hc (by simp [BO]) (all2 _ _) (all2 _ _) n1 n2 n3 n4 n5 hs
 ·cases h
section
variable (L:LT) (a:Int) (n:Nat) (g:Nat->E6) (m:Nat) (x:Nat->Ev5) (t k:Int) (p:Nat) (r:Nat->Int) (q:Nat) (ln:Nat->Nat) (co:Nat->Nat->Int)
include L a n g m x t k p r q ln co
theorem Arp (h0:ilt 16 (ofNat n)=false) (h18:Ct n=true) (h1:ieq (Hu a n g) 0=true) (h19:BO [.cells (shL a n g m x t k p r q ln co),.row 76 6 n (λi=>eV (shG n g i)),.row 74 5 n (λi=>evV (evF n (shG n g) (λ_=>true) i)),.row 3 1 n (λi=>iV (rfF n (shG n g) (λ_=>true) i)),.jag (Jag.mk 24 1 (kkN n (shG n g)) Aa 0 3 1 (λ_=>true) (lnN (mbF (shG n g)) (wrF (shG n g)) n) (λk i=>iV (ofNat (coN (mbF (shG n g)) (wrF (shG n g)) n k i))) none),.cells [iV a,.ref 1,.ref 2,iV (ofNat (ttN n (shG n g))),iV (ofNat (kkN n (shG n g))),.ref 3,.jref 4]]=true) (h20:AV q (λi=>AV (ln i) (λ_=>true))=true) (h21:AV (kkN n (shG n g)) (λi=>AV (lnN (mbF (shG n g)) (wrF (shG n g)) n i) (λ_=>true))=true) (h22:Aq n=true) (h23:Aq m=true) (h24:Aq p=true) (h25:Aq q=true) (h26:AV q (λi=>Aq (ln i))=true) (h2:Al (ieq a a) (Al (ieq t (ofNat (ttN n (shG n g)))) (Al (ieq k (ofNat (kkN n (shG n g)))) (Al (DZ n g n (λi=>shG n g i)) (Al (ieq (ofNat m) (ofNat n)) (Al (Ef p r n (rfF n (shG n g) (λ_=>true))) (Al (FS q ln (λi i_1=>co i i_1) (kkN n (shG n g)) (lnN (mbF (shG n g)) (wrF (shG n g)) n) (λi i_1=>ofNat (coN (mbF (shG n g)) (wrF (shG n g)) n i i_1))) (AV m (λk=>IE (x k) (evF n (shG n g) (λ_=>true) k)))))))))=false):(A0 (Aj tab ⟨Aw AfD,L,Gl⟩ Tryz.f64 [.agg (shL a n g m x t k p r q ln co)] [])).sem=some ((iV 70),[]):=by
 exact Ae (ks:=[kn h0,kL n,kn h18,kn h1,kN (kI 0),kN (kI 0),kN (kI 0),kn h19,kL n,kL m,kL p,kn h20,kL n,kL n,kL n,kn h21,kA (kn h22) (kA (kn h23) (kA (kn h24) (kA (kn h25) (kn h26)))),kN (kI 0),kN (kI 0),kN (kn h2)]) (by kernel_rfl)
theorem Aro (h0:ilt 16 (ofNat n)=false) (h18:Ct n=true) (h1:ieq (Hu a n g) 0=true) (h19:BO [.cells (shL a n g m x t k p r q ln co),.row 76 6 n (λi=>eV (shG n g i)),.row 74 5 n (λi=>evV (evF n (shG n g) (λ_=>true) i)),.row 3 1 n (λi=>iV (rfF n (shG n g) (λ_=>true) i)),.jag (Jag.mk 24 1 (kkN n (shG n g)) Aa 0 3 1 (λ_=>true) (lnN (mbF (shG n g)) (wrF (shG n g)) n) (λk i=>iV (ofNat (coN (mbF (shG n g)) (wrF (shG n g)) n k i))) none),.cells [iV a,.ref 1,.ref 2,iV (ofNat (ttN n (shG n g))),iV (ofNat (kkN n (shG n g))),.ref 3,.jref 4]]=true) (h20:AV q (λi=>AV (ln i) (λ_=>true))=true) (h21:AV (kkN n (shG n g)) (λi=>AV (lnN (mbF (shG n g)) (wrF (shG n g)) n i) (λ_=>true))=true) (h22:Aq n=true) (h23:Aq m=true) (h24:Aq p=true) (h25:Aq q=true) (h26:AV q (λi=>Aq (ln i))=true) (h2:Al (ieq a a) (Al (ieq t (ofNat (ttN n (shG n g)))) (Al (ieq k (ofNat (kkN n (shG n g)))) (Al (DZ n g n (λi=>shG n g i)) (Al (ieq (ofNat m) (ofNat n)) (Al (Ef p r n (rfF n (shG n g) (λ_=>true))) (Al (FS q ln (λi i_1=>co i i_1) (kkN n (shG n g)) (lnN (mbF (shG n g)) (wrF (shG n g)) n) (λi i_1=>ofNat (coN (mbF (shG n g)) (wrF (shG n g)) n i i_1))) (AV m (λk=>IE (x k) (evF n (shG n g) (λ_=>true) k)))))))))=true):(A0 (Aj tab ⟨Aw AfD,L,Gl⟩ Tryz.f64 [.agg (shL a n g m x t k p r q ln co)] [])).sem=some ((iV 0),[]):=by
 exact Ae (ks:=[kn h0,kL n,kn h18,kn h1,kN (kI 0),kN (kI 0),kN (kI 0),kn h19,kL n,kL m,kL p,kn h20,kL n,kL n,kL n,kn h21,kA (kn h22) (kA (kn h23) (kA (kn h24) (kA (kn h25) (kn h26)))),kN (kI 0),kN (kI 0),kN (kn h2)]) (by kernel_rfl)
end
theorem p39:Ap Tryz.prog Gl 64 K2:=by
 refine Ah A2 mixed Tryz.func64 (by kernel_rfl) (by kernel_rfl) λvs v h' h=>?_;unfold K2 at h;split at h
 ·rename_i v1
  obtain ⟨s,a1,h⟩:=apS_some h;obtain ⟨hf,h⟩:=Ac h;obtain ⟨hn,h⟩:=Ac h;have:=Ab h;simp only [Prod.mk.injEq] at this;obtain ⟨rfl,rfl⟩:=this;obtain ⟨a,n,g,m,x,t,k,p,r,q,C⟩:=s;have hA:Ba [v1] [.agg [iV a,.sl 6 n (λi=>eV (g i)),.sl 5 m (λi=>evV (x i)),iV t,iV k,.sl 1 p (λi=>iV (r i)),.sl 1 q (λu=>.sl 1 (C u).1 (λi=>iV ((C u).2 i)))]]:=λS w cs hv=>by
   obtain ⟨c,l,rfl,q1,q2⟩:=hv;exact ⟨c,_,rfl,a1 S w c q1,q2⟩
  have hn:Aq n=true∧Aq m=true∧Aq p=true∧Aq q=true∧(AV q λi=>Aq (C i).1)=true:=by simpa [D7,Al] using hn
  obtain ⟨n1,n2,n3,n4,n5⟩:=hn;have hx:=Bh AfC [] (G:=Gl);refine ⟨_,AO Gl AfD [],_,hA,rfl,hx.1,hx.2,?_,Am.refl _⟩;have all2:∀ (q:Nat) (ln:Nat->Nat),(AV q λi=>AV (ln i) λ_=>true)=true:=λ_ _=>A8.2 λ_ _=>A8.2 λ_ _=>rfl;show _=some (iV (sel (BU ⟨a,n,g,m,x,t,k,p,r,q,C⟩) 0 70),_);revert n5;generalize hln:(λi=>(C i).1)=ln;generalize hco:(λi=>(C i).2)=co;have e1:∀ u,(C u).1=ln u:=λu=>by rw [<- hln]
  have e2:∀ u,(C u).2=co u:=λu=>by rw [<- hco]
  have hC:C=λu=>(ln u,co u):=by
   funext u;rw [<- e1,<- e2]
  intro n5;simp only [e1,e2] at n5 ⊢;subst hC;cases h16:ilt 16 (ofNat n) with
  | true =>have hc:ieq (Hu a n g) 0=false:=Ae3 h16;rw [show BU _=false from XG hc];exact Ae (ks:=[kn h16]) (by kernel_rfl)/-W:w39l-/
  | false =>
  cases hc:ieq (Hu a n g) 0 with
  | false =>rw [show BU _=false from XG hc];exact Ae (ks:=[kn h16,kL n,kn hf,kn hc,kN (kn hc),kN (kn hc),kN (kn hc),kN (kn hc),kN (kn hc),kT]) (by kernel_rfl)/-W:w39e-/
  | true =>
   rw [show BU _=_ from FP hc];cases hs:IF ⟨a,n,g,m,x,t,k,p,r,q,λu=>(ln u,co u)⟩ (ofS a n g) with
   | false=>exact Arp _ a n g m x t k p r q ln co h16 hf hc (by simp [BO]) (all2 _ _) (all2 _ _) n1 n2 n3 n4 n5 hs
   | true=>exact Aro _ a n g m x t k p r q ln co h16 hf hc (by simp [BO]) (all2 _ _) (all2 _ _) n1 n2 n3 n4 n5 hs
 ·cases h
end Go.Proofs.YtkbafjceglhjhaaGreatDoor.Sh
namespace Go.Proofs.YtkbafjceglhjhaaGreatDoor.Er
open Go.Sy Go Go.Proofs.YtkbafjceglhjhaaGreatDoor.Ed Go.Proofs.YtkbafjceglhjhaaGreatDoor.Sh
set_option maxRecDepth 100000
set_option maxHeartbeats 1000000
theorem bFA (b:Bool):(false && b)=false:=rfl
theorem bFO (b:Bool):(false || b)=b:=rfl
theorem bTA (b:Bool):(true && b)=b:=rfl
theorem bTO (b:Bool):(true || b)=true:=rfl
def shT (C:Sh7->A5):List V->A5
 | [v]=>apS v C
 | _=>.fail
theorem KY {k:FuncId} {fn:Func} (hf:Tryz.prog.funcs[k]? = some fn) (hb:fn.body.isSome=true) (hn:(fn.name == "runtime.NumGoroutine")=false) {Γ:Sh7->Cx} (hG:∀ s,(Γ s).glob=Gl) (hc:∀ s,Bu Tryz.prog (Γ s).base∧Cr (Γ s))
  {C:Sh7->A5} (h:∀ s r,(C s).sem=some r->(A0 (Aj tab (Γ s) fn [EC s] [])).sem=some r):Ap Tryz.prog Gl k (shT C):=by
 refine Ah A2 mixed hf hb hn λvs v h' hv=>?_;unfold shT at hv;split at hv
 ·obtain ⟨s,a1,hv⟩:=apS_some hv
  exact ⟨[EC s],Γ s,h',λS w cs hq=>by
   obtain ⟨c,l,rfl,q1,q2⟩:=hq;exact ⟨c,_,rfl,a1 S w c q1,q2⟩,hG s,(hc s).1,(hc s).2,h s _ hv,Am.refl _⟩
 ·cases hv
def F7 (n:Nat) (f:Nat->Int) (lc:Int):Int:=bif isN (AN (λk=>ieq (f k) lc) n 0) then 0 else wr .i64 (Ai 7 (Int.ofNat (tO (λk=>ieq (f k) lc) n)))
def AhY:List V->A5
 | [.agg [v,.anym],.val (.int .i64 lc)]=>apI v λn f=>.br (Aq n) (.leaf (iV (F7 n f lc),[])) .fail
 | _=>.fail
def ApH:Lp:=⟨bmK 21 0 [1,2,4,8,9,10],1,bmK 21 0 [4],0,4611686018427387905⟩
def S61 (n:Nat) (f:Nat->Int) (lc:Int) (c:Int) (a:Unit) (j:Nat->V):St:=⟨jsV 21 0 j [(1,iV lc),(2,.ptr 0 0),(4,iV 0),(8,.sl 1 n (λk=>iV (f k))),(9,nV n),(10,iV c)],[.cells [.sl 1 n (λk=>iV (f k)),.anym]]⟩
noncomputable def B61 (L:LT):St->T (Ex×St):=λst=>AA tab ⟨Aw tb0,L,Gl⟩ (As Tryz.f61 0) 0 st
def Aio (n:Nat) (f:Nat->Int) (lc:Int) (i:Nat) (a:Unit):Ex×St:=(.rt,⟨jsV 21 0 Aa [(4,iV (wr .i64 (Ai 7 (Int.ofNat i))))],[]⟩)
def g61 (n:Nat) (f:Nat->Int) (lc:Int) (i:Nat) (a:Unit):T ((Unit) ⊕ (Ex×St)):=.br (ieq (f i) lc) (.leaf (.inr (Aio n f lc i a))) (.leaf (.inl ()))
def Aq0 (n:Nat) (f:Nat->Int) (lc:Int) (a:Unit):Ex×St:=(.ex 0,⟨jsV 21 0 Aa [(4,iV 0)],[]⟩)
theorem r61 (L:LT) (n:Nat) (f:Nat->Int) (lc:Int)  (hn:n <= 4611686018427387904) {e:Ex×St} {a:Unit} {j:Nat->V} (h:Co (g61 n f lc) (Aq0 n f lc) n 0 a=some e):(Av (B61 L) ApH 4611686018427387905 (S61 n f lc 0 a j)).sem=some (exR e) :=
 AZ BF hn (λi a j r hi h=>DK.ok (L:=goR (S61 n f lc) exR i) (.k (ofNat_lt hi) <| .k (Ad hi) <| .c (λh1=>.k h1 <| .l) λh1=>.k h1 <| .l) (by kernel_rfl) h) (λa j=>DK.ok (C:=.leaf (Aq0 n f lc a)) (L:=exR) (.k (A1 (Nat.le_refl n)) .l) (by kernel_rfl) rfl) (Nat.zero_add _).symm (Nat.lt_succ_of_le hn) h
def AgD:List (Nat×Lp×List (Nat×(Nat->V))):=[(0,ApH,[])]
theorem Ajq (n:Nat) (f:Nat->Int) (lc:Int) (i:Nat) (_:i<n) (h:(λk=>ieq (f k) lc) i=false):(g61 n f lc i ()).sem=some (.inl ()):=by
 replace h:ieq (f i) lc=false:=h
 show sel (ieq (f i) lc) _ _=_;rw [h];rfl
theorem Ajp (n:Nat) (f:Nat->Int) (lc:Int) (i:Nat) (_:i<n) (h:(λk=>ieq (f k) lc) i=true):(g61 n f lc i ()).sem=some (.inr (Aio n f lc i ())):=by
 replace h:ieq (f i) lc=true:=h
 show sel (ieq (f i) lc) _ _=_;rw [h];rfl
def C61 (n:Nat) (f:Nat->Int) (lc:Int):A5:=.br (isN (AN (λk=>ieq (f k) lc) n 0)) (.leaf ((iV 0),[])) (.leaf ((iV (wr .i64 (Ai 7 (Int.ofNat (tO (λk=>ieq (f k) lc) n))))),[]))
theorem Aii (n:Nat) (f:Nat->Int) (lc:Int):(C61 n f lc).sem=some (iV (F7 n f lc),[]):=by
 unfold C61 F7;cases isN (AN (λk=>ieq (f k) lc) n 0) <;> rfl
theorem p61:Ap Tryz.prog Gl 61 AhY:=by
 refine Ah A2 mixed Tryz.func61 (by kernel_rfl) (by kernel_rfl) λvs v h' h=>?_;unfold AhY at h;split at h
 ·rename_i u lc
  obtain ⟨n,f,ha,h⟩:=El h;obtain ⟨hn,h⟩:=Ac h;have:=Ab h;simp only [Prod.mk.injEq] at this;obtain ⟨rfl,rfl⟩:=this;have w:DK (λa=>a) (C61 n f lc) _:=.c (λh1=>.a (r61 (Go.Sy.askL AgD) n f lc (BM hn) (j:=λ_=>.und) (Px (acc:=λ_=>()) (Ajq n f lc) (Ajp n f lc) h1)) <| .l) λh1=>.a (r61 (Go.Sy.askL AgD) n f lc (BM hn) (j:=λ_=>.und) (Pw (acc:=λ_=>()) (Ajq n f lc) (Ajp n f lc) h1)) <| .l
  have hx:=AS Ca AgD (G:=Gl);exact ⟨_,cxA Gl tb0 AgD,_,(show Ba [.agg [u,.anym],iV lc] [.agg [.sl 1 n (λk=>iV (f k)),.anym],iV lc] from λS w cs hv=>by
   obtain ⟨c,l,rfl,⟨ca,rfl,c1,l1,rfl,q1,q2⟩,q3⟩:=hv;exact ⟨_,l,rfl,⟨_,rfl,c1,_,rfl,ha S w c1 q1,q2⟩,q3⟩),rfl,hx.1,hx.2,DK.of (Aii n f lc) w (by kernel_rfl),Am.refl _⟩
 ·cases h
noncomputable def tb33:A7:=(60,K2)::[]
theorem tb33_ok:Ao Tryz.prog Gl tb33:=.cons p25 .nil
noncomputable def tb36:A7:=(64,K2)::[]
theorem tb36_ok:Ao Tryz.prog Gl tb36:=.cons p39 .nil
def CQ (s:Sh7):Int:=bif BU s then (bif ieq s.arch 2 then 0 else 5) else 70
def Qi (s:Sh7):A5:=.br (Ct s.ne) (.br (D7 s) (.leaf (iV (CQ s),[])) .fail) .fail
def C33 (s:Sh7):A5:=.br (Ct s.ne) (.br (Al (Aq s.ne) (Al (Aq s.nx) (Al (Aq s.nr) (Al (Aq s.nc) (AV s.nc (λi=>Aq (s.C i).1)))))) (.br (ieq (sel (BU s) 0 70) 0) (.br (ieq s.arch 2) (.leaf ((iV 0),[])) (.leaf ((iV 5),[]))) (.leaf ((iV 70),[]))) .fail) .fail
theorem Afh (s:Sh7) (r:V×List Blk) (h:(Qi s).sem=some r):(C33 s).sem=some r:=by
 obtain ⟨h1,h⟩:=Ac h;obtain ⟨h2,h⟩:=Ac h;have h2:Al (Aq s.ne) (Al (Aq s.nx) (Al (Aq s.nr) (Al (Aq s.nc) (AV s.nc (λi=>Aq (s.C i).1)))))=true:=h2;unfold C33;rw [h1,h2];rw [<- h];unfold CQ;cases BU s <;> cases ieq s.arch 2 <;> rfl
theorem p33:Ap Tryz.prog Gl 33 (shT Qi):=KY Tryz.func33 (by kernel_rfl) (by kernel_rfl) (Γ:=λ_=>cxA Gl tb33 []) (λ_=>rfl) (λ_=>AS tb33_ok [])
 λs r h=>DK.of (Afh s r h) (.k (eL s.ne) <| .k (eL s.nx) <| .k (eL s.nr) <| .k (eL2 s.nc s.C) <| .g λh1=>.k h1 <| .g λh2=>.k h2 <| .c (λh3=>.k (eN h3) <| .c (λh4=>.k (eN h4) <| .l) λh4=>.k (eN h4) <| .l) λh3=>.k (eN h3) <| .l) (by kernel_rfl)
theorem p36:Ap Tryz.prog Gl 36 (shT Qi):=KY Tryz.func36 (by kernel_rfl) (by kernel_rfl) (Γ:=λ_=>cxA Gl tb36 []) (λ_=>rfl) (λ_=>AS tb36_ok [])
 λs r h=>DK.of (Afh s r h) (.k (eL s.ne) <| .k (eL s.nx) <| .k (eL s.nr) <| .k (eL2 s.nc s.C) <| .g λh1=>.k h1 <| .g λh2=>.k h2 <| .c (λh3=>.k (eN h3) <| .c (λh4=>.k (eN h4) <| .l) λh4=>.k (eN h4) <| .l) λh3=>.k (eN h3) <| .l) (by kernel_rfl)
end Go.Proofs.YtkbafjceglhjhaaGreatDoor.Er
