/-
  Layer 7: whether shapes are the same, the program's (by slices.Equal). No conditions.
-/
import Derived.Test.YtkbafjceglhjhaaGreatDoorShI
import Derived.Test.YtkbafjceglhjhaaGreatDoorEdX
namespace Go.Proofs.YtkbafjceglhjhaaGreatDoor.Sh
open Go.Sy Ed
open Int (ofNat)
set_option maxHeartbeats 1000000
set_option maxRecDepth 4000
theorem Afk {n:Nat} {f:Nat->E6} {m:Nat} {g:Nat->E6} (h:ieq (ofNat n) (ofNat m)=false):EH n f m g=false:=by
 unfold EH;rw [h];rfl
theorem Adw {a b:E6}:eqE a b=true↔a=b:=by
 have h:=@IN 1 (λ_=>a) 1 (λ_=>b);have e:EH 1 (λ_=>a) 1 (λ_=>b)=eqE a b:=by
  show sel (eqE a b) true false=_;cases eqE a b <;> rfl
 rw [e] at h;exact ⟨λhh=>(h.1 hh).2 0 (by omega),λhh=>h.2 ⟨rfl,λ_ _=>hh⟩⟩
theorem Afj {n:Nat} {f:Nat->E6} {m:Nat} {g:Nat->E6} (h:ieq (ofNat n) (ofNat m)=true):EH n f m g=Bo n λk=>eqE (f k) (g k):=by
 rw [Bool.eq_iff_iff,IN,AO];exact ⟨λhh k hk=>Adw.2 (hh.2 k hk),λhh=>⟨Ch h,λk hk=>Adw.1 (hh k hk)⟩⟩
def QB (n:Nat) (f:Nat->Ev5) (m:Nat) (g:Nat->Ev5):Bool:=Ak (ieq (ofNat n) (ofNat m)) (Bo n λk=>I3 (f k) (g k))
def Wg:List V->AA
 | [v,u]=>apG codE v λn f=>apG codE u λm g=>.br (Au n) (.leaf (bV (EH n f m g),[])) .fail
 | _=>.fail
def We:List V->AA
 | [v,u]=>apG To v λn f=>apG To u λm g=>.br (Au n) (.leaf (bV (QB n f m g),[])) .fail
 | _=>.fail
def Sa:List V->AA
 | [v,u,.fn 145 []]=>apG codJ v λn C=>apG codJ u λm D=>.br (Au n) (.br (Bo n λi=>Au (C i).1) (.leaf (bV (G1 n (λi=>(C i).1) (λi=>(C i).2) m (λi=>(D i).1) (λi=>(D i).2)),[])) .fail) .fail
 | _=>.fail
def Aol:Lp:=⟨bmK 26 0 [0,1,4,12,13],0,bmK 26 0 [4],0,4611686018427387905⟩
def S89 (n:Nat) (f:Nat->E6) (m:Nat) (g:Nat->E6) (c:Int) (_:Unit) (j:Nat->V):St:=⟨jsV 26 0 j [(0,.sl 6 n (λi=>eV (f i))),(1,.sl 6 m (λi=>eV (g i))),(4,bV false),(12,nV n),(13,iV c)],[]⟩
noncomputable def B89 (L:LT):St->T (Ex×St):=λst=>AK tab ⟨A2 tb0,L,Gl⟩ (A3 Tryz.f143 0) 0 st
def Amh (_:Nat) (_:Nat->E6) (_:Nat) (_:Nat->E6) (_:Nat) (_:Unit):Ex×St:=(.rt,⟨jsV 26 0 Ab [(4,bV false)],[]⟩)
def g89 (n:Nat) (f:Nat->E6) (m:Nat) (g:Nat->E6) (i:Nat) (a:Unit):T ((Unit) ⊕ (Ex×St)):=.br (eqE (f i) (g i)) (.leaf (.inl ())) (.leaf (.inr (Amh n f m g i a)))
def AoT (_:Nat) (_:Nat->E6) (_:Nat) (_:Nat->E6) (_:Unit):Ex×St:=(.ex 0,⟨jsV 26 0 Ab [(4,bV false)],[]⟩)
theorem r89 (L:LT) (n:Nat) (f:Nat->E6) (m:Nat) (g:Nat->E6) (hm:n=m) (hn:n <= 4611686018427387904) {e:Ex×St} {a:Unit} {j:Nat->V} (h:Cm (g89 n f m g) (AoT n f m g) n 0 a=some e):(A4 (B89 L) Aol 4611686018427387905 (S89 n f m g 0 a j)).sem=some (exR e) :=
 AW BG hn (λi a j r hi h=>DK.ok (L:=goR (S89 n f m g) exR i) (.k (ofNat_lt hi) <| .k (Ae hi) <| .k (Ae (hm ▸ hi)) <| .c (λh1=>.k (eN h1) <| .l) λh1=>.k (eN h1) <| .l) (by kernel_rfl) h) (λa j=>DK.ok (C:=.leaf (AoT n f m g a)) (L:=exR) (.k (Az (Nat.le_refl n)) .l) (by kernel_rfl) rfl) (Nat.zero_add _).symm (Nat.lt_succ_of_le hn) h
def AfJ:List (Nat×Lp×List (Nat×(Nat->V))):=[(0,Aol,[])]
def C89 (n:Nat) (f:Nat->E6) (m:Nat) (g:Nat->E6):AA:=.br (ieq (ofNat n) (ofNat m)) (.br (Bo n λk=>eqE (f k) (g k)) (.leaf ((bV true),[])) (.leaf ((bV false),[]))) (.leaf ((bV false),[]))
theorem Ahh (n:Nat) (f:Nat->E6) (m:Nat) (g:Nat->E6):(C89 n f m g).sem=some (bV (EH n f m g),[]):=by
 unfold C89;cases h:ieq (ofNat n) (ofNat m)
 ·rw [Afk h]; rfl
 rw [Afj h];cases Bo n λk=>eqE (f k) (g k) <;> rfl
theorem p103:As Tryz.prog Gl 143 Wg:=by
 refine Am A0 mixed Tryz.func143 (by kernel_rfl) (by kernel_rfl) λvs v h' h=>?_;unfold Wg at h;split at h
 ·rename_i v1 u1
  obtain ⟨n,f,a1,h⟩:=Bv h;obtain ⟨m,g,a2,h⟩:=Bv h;obtain ⟨hn,h⟩:=Ad h;have:=Aa h;simp only [Prod.mk.injEq] at this;obtain ⟨rfl,rfl⟩:=this;have w:DK (λa=>a) (C89 n f m g) _:=.c (λh1=>.k (eN h1) <| .c (λh2=>.a (r89 (askL AfJ) n f m g (Ch h1) (C6 hn) (j:=λ_=>.und) (PY (λ_ _=>rfl) h2)) <| .l) λh2=>.a (r89 (askL AfJ) n f m g (Ch h1) (C6 hn) (j:=λ_=>.und) (PZ (λ_ _=>rfl) h2)) <| .l) λh1=>.k (eN h1) <| .l
  have hx:=Bd C5 AfJ (G:=Gl);exact ⟨_,cxA Gl tb0 AfJ,_,(show Bw [v1,u1] [IW codE n f,IW codE m g] from λS w cs hv=>by
   obtain ⟨c,l,rfl,q1,c',l',rfl,q2,q3⟩:=hv;exact ⟨c,_,rfl,a1 S w c q1,c',l',rfl,a2 S w c' q2,q3⟩),rfl,hx.1,hx.2,DK.of (Ahh n f m g) w (by kernel_rfl),Aw.refl _⟩
 ·cases h
def Aok:Lp:=⟨bmK 26 0 [0,1,4,12,13],0,bmK 26 0 [4],0,4611686018427387905⟩
def S90 (n:Nat) (f:Nat->Ev5) (m:Nat) (g:Nat->Ev5) (c:Int) (_:Unit) (j:Nat->V):St:=⟨jsV 26 0 j [(0,.sl 5 n (λi=>evV (f i))),(1,.sl 5 m (λi=>evV (g i))),(4,bV false),(12,nV n),(13,iV c)],[]⟩
noncomputable def B90 (L:LT):St->T (Ex×St):=λst=>AK tab ⟨A2 tb0,L,Gl⟩ (A3 Tryz.f144 0) 0 st
def Amg (_:Nat) (_:Nat->Ev5) (_:Nat) (_:Nat->Ev5) (_:Nat) (_:Unit):Ex×St:=(.rt,⟨jsV 26 0 Ab [(4,bV false)],[]⟩)
def g90 (n:Nat) (f:Nat->Ev5) (m:Nat) (g:Nat->Ev5) (i:Nat) (a:Unit):T ((Unit) ⊕ (Ex×St)):=.br (Ak (ieq (f i).th (g i).th) (Ak (ieq (f i).pl (g i).pl) (Ak (ieq (f i).dir (g i).dir) (Ak (ieq (f i).loc (g i).loc) (Ak (ieq (f i).val (g i).val) true))))) (.leaf (.inl ())) (.leaf (.inr (Amg n f m g i a)))
def AoS (_:Nat) (_:Nat->Ev5) (_:Nat) (_:Nat->Ev5) (_:Unit):Ex×St:=(.ex 0,⟨jsV 26 0 Ab [(4,bV false)],[]⟩)
theorem r90 (L:LT) (n:Nat) (f:Nat->Ev5) (m:Nat) (g:Nat->Ev5) (hm:n=m) (hn:n <= 4611686018427387904) {e:Ex×St} {a:Unit} {j:Nat->V} (h:Cm (g90 n f m g) (AoS n f m g) n 0 a=some e):(A4 (B90 L) Aok 4611686018427387905 (S90 n f m g 0 a j)).sem=some (exR e) :=
 AW BG hn (λi a j r hi h=>DK.ok (L:=goR (S90 n f m g) exR i) (.k (ofNat_lt hi) <| .k (Ae hi) <| .k (Ae (hm ▸ hi)) <| .c (λh1=>.k (eN h1) <| .l) λh1=>.k (eN h1) <| .l) (by kernel_rfl) h) (λa j=>DK.ok (C:=.leaf (AoS n f m g a)) (L:=exR) (.k (Az (Nat.le_refl n)) .l) (by kernel_rfl) rfl) (Nat.zero_add _).symm (Nat.lt_succ_of_le hn) h
def AfI:List (Nat×Lp×List (Nat×(Nat->V))):=[(0,Aok,[])]
def C90 (n:Nat) (f:Nat->Ev5) (m:Nat) (g:Nat->Ev5):AA:=.br (ieq (ofNat n) (ofNat m)) (.br (Bo n λk=>I3 (f k) (g k)) (.leaf ((bV true),[])) (.leaf ((bV false),[]))) (.leaf ((bV false),[]))
theorem Ahg (n:Nat) (f:Nat->Ev5) (m:Nat) (g:Nat->Ev5):(C90 n f m g).sem=some (bV (QB n f m g),[]):=by
 unfold C90;unfold QB;cases ieq (ofNat n) (ofNat m)
 ·rfl
 cases Bo n λk=>I3 (f k) (g k) <;> rfl
theorem p104:As Tryz.prog Gl 144 We:=by
 refine Am A0 mixed Tryz.func144 (by kernel_rfl) (by kernel_rfl) λvs v h' h=>?_;unfold We at h;split at h
 ·rename_i v1 u1
  obtain ⟨n,f,a1,h⟩:=Bv h;obtain ⟨m,g,a2,h⟩:=Bv h;obtain ⟨hn,h⟩:=Ad h;have:=Aa h;simp only [Prod.mk.injEq] at this;obtain ⟨rfl,rfl⟩:=this;have w:DK (λa=>a) (C90 n f m g) _:=.c (λh1=>.k (eN h1) <| .c (λh2=>.a (r90 (askL AfI) n f m g (Ch h1) (C6 hn) (j:=λ_=>.und) (PY (λ_ _=>rfl) h2)) <| .l) λh2=>.a (r90 (askL AfI) n f m g (Ch h1) (C6 hn) (j:=λ_=>.und) (PZ (λ_ _=>rfl) h2)) <| .l) λh1=>.k (eN h1) <| .l
  have hx:=Bd C5 AfI (G:=Gl);exact ⟨_,cxA Gl tb0 AfI,_,(show Bw [v1,u1] [IW To n f,IW To m g] from λS w cs hv=>by
   obtain ⟨c,l,rfl,q1,c',l',rfl,q2,q3⟩:=hv;exact ⟨c,_,rfl,a1 S w c q1,c',l',rfl,a2 S w c' q2,q3⟩),rfl,hx.1,hx.2,DK.of (Ahg n f m g) w (by kernel_rfl),Aw.refl _⟩
 ·cases h
def Aoj:Lp:=⟨bmK 26 0 [0,1,4,12,13],0,bmK 26 0 [4],0,4611686018427387905⟩
def S91 (n:Nat) (f:Nat->Int) (m:Nat) (g:Nat->Int) (c:Int) (_:Unit) (j:Nat->V):St:=⟨jsV 26 0 j [(0,.sl 1 n (λi=>iV (f i))),(1,.sl 1 m (λi=>iV (g i))),(4,bV false),(12,nV n),(13,iV c)],[]⟩
noncomputable def B91 (L:LT):St->T (Ex×St):=λst=>AK tab ⟨A2 tb0,L,Gl⟩ (A3 Tryz.f145 0) 0 st
def Amf (_:Nat) (_:Nat->Int) (_:Nat) (_:Nat->Int) (_:Nat) (_:Unit):Ex×St:=(.rt,⟨jsV 26 0 Ab [(4,bV false)],[]⟩)
def g91 (n:Nat) (f:Nat->Int) (m:Nat) (g:Nat->Int) (i:Nat) (a:Unit):T ((Unit) ⊕ (Ex×St)):=.br (ieq (f i) (g i)) (.leaf (.inl ())) (.leaf (.inr (Amf n f m g i a)))
def AoR (_:Nat) (_:Nat->Int) (_:Nat) (_:Nat->Int) (_:Unit):Ex×St:=(.ex 0,⟨jsV 26 0 Ab [(4,bV false)],[]⟩)
theorem r91 (L:LT) (n:Nat) (f:Nat->Int) (m:Nat) (g:Nat->Int) (hm:n=m) (hn:n <= 4611686018427387904) {e:Ex×St} {a:Unit} {j:Nat->V} (h:Cm (g91 n f m g) (AoR n f m g) n 0 a=some e):(A4 (B91 L) Aoj 4611686018427387905 (S91 n f m g 0 a j)).sem=some (exR e) :=
 AW BG hn (λi a j r hi h=>DK.ok (L:=goR (S91 n f m g) exR i) (.k (ofNat_lt hi) <| .k (Ae hi) <| .k (Ae (hm ▸ hi)) <| .c (λh1=>.k (eN h1) <| .l) λh1=>.k (eN h1) <| .l) (by kernel_rfl) h) (λa j=>DK.ok (C:=.leaf (AoR n f m g a)) (L:=exR) (.k (Az (Nat.le_refl n)) .l) (by kernel_rfl) rfl) (Nat.zero_add _).symm (Nat.lt_succ_of_le hn) h
def AfH:List (Nat×Lp×List (Nat×(Nat->V))):=[(0,Aoj,[])]
def C91 (n:Nat) (f:Nat->Int) (m:Nat) (g:Nat->Int):AA:=.br (ieq (ofNat n) (ofNat m)) (.br (Bo n λk=>ieq (f k) (g k)) (.leaf ((bV true),[])) (.leaf ((bV false),[]))) (.leaf ((bV false),[]))
theorem Ahf (n:Nat) (f:Nat->Int) (m:Nat) (g:Nat->Int):(C91 n f m g).sem=some (bV (Et n f m g),[]):=by
 unfold C91;unfold Et;cases ieq (ofNat n) (ofNat m)
 ·rfl
 cases Bo n λk=>ieq (f k) (g k) <;> rfl
theorem AnP:As Tryz.prog Gl 145 IM:=by
 refine Am A0 mixed Tryz.func145 (by kernel_rfl) (by kernel_rfl) λvs v h' h=>?_;unfold IM at h;split at h
 ·rename_i v1 u1
  obtain ⟨n,f,a1,h⟩:=Bv h;obtain ⟨m,g,a2,h⟩:=Bv h;obtain ⟨hn,h⟩:=Ad h;have:=Aa h;simp only [Prod.mk.injEq] at this;obtain ⟨rfl,rfl⟩:=this;have w:DK (λa=>a) (C91 n f m g) _:=.c (λh1=>.k (eN h1) <| .c (λh2=>.a (r91 (askL AfH) n f m g (Ch h1) (C6 hn) (j:=λ_=>.und) (PY (λ_ _=>rfl) h2)) <| .l) λh2=>.a (r91 (askL AfH) n f m g (Ch h1) (C6 hn) (j:=λ_=>.und) (PZ (λ_ _=>rfl) h2)) <| .l) λh1=>.k (eN h1) <| .l
  have hx:=Bd C5 AfH (G:=Gl);exact ⟨_,cxA Gl tb0 AfH,_,(show Bw [v1,u1] [IW Tp n f,IW Tp m g] from λS w cs hv=>by
   obtain ⟨c,l,rfl,q1,c',l',rfl,q2,q3⟩:=hv;exact ⟨c,_,rfl,a1 S w c q1,c',l',rfl,a2 S w c' q2,q3⟩),rfl,hx.1,hx.2,DK.of (Ahf n f m g) w (by kernel_rfl),Aw.refl _⟩
 ·cases h
noncomputable def tb106:AE:=(145,IM)::[]
theorem tb106_ok:Ar Tryz.prog Gl tb106:=.cons AnP .nil
def AhW:Lp:=⟨bmK 32 0 [0,1,2,6,15,16,17],0,bmK 32 0 [6],0,4611686018427387905⟩
def Ap5 (n:Nat) (C:Nat->Nat×(Nat->Int)) (m:Nat) (D:Nat->Nat×(Nat->Int)) (c:Int) (_:Unit) (j:Nat->V):St:=⟨jsV 32 0 j [(0,.sl 1 n (λu=>.sl 1 (C u).1 (λi=>iV ((C u).2 i)))),(1,.sl 1 m (λu=>.sl 1 (D u).1 (λi=>iV ((D u).2 i)))),(2,.fn 145 []),(6,bV false),(15,.sl 1 n (λu=>.sl 1 (C u).1 (λi=>iV ((C u).2 i)))),(16,nV n),(17,iV c)],[]⟩
noncomputable def Arh (L:LT):St->T (Ex×St):=λst=>AK tab ⟨A2 tb106,L,Gl⟩ (A3 Tryz.f146 0) 0 st
def AiQ (_:Nat) (_:Nat->Nat×(Nat->Int)) (_:Nat) (_:Nat->Nat×(Nat->Int)) (_:Nat) (_:Unit):Ex×St:=(.rt,⟨jsV 32 0 Ab [(6,bV false)],[]⟩)
def AqE (n:Nat) (C:Nat->Nat×(Nat->Int)) (m:Nat) (D:Nat->Nat×(Nat->Int)) (i:Nat) (a:Unit):T ((Unit) ⊕ (Ex×St)):=.br (Et (C i).1 (C i).2 (D i).1 (D i).2) (.leaf (.inl ())) (.leaf (.inr (AiQ n C m D i a)))
def Ai1 (_:Nat) (_:Nat->Nat×(Nat->Int)) (_:Nat) (_:Nat->Nat×(Nat->Int)) (_:Unit):Ex×St:=(.ex 0,⟨jsV 32 0 Ab [(6,bV false)],[]⟩)
theorem An9 (L:LT) (n:Nat) (C:Nat->Nat×(Nat->Int)) (m:Nat) (D:Nat->Nat×(Nat->Int)) (hm:n=m) (hs:(Bo n λk=>Au (C k).1)=true) (hn:n <= 4611686018427387904) {e:Ex×St} {a:Unit} {j:Nat->V} (h:Cm (AqE n C m D) (Ai1 n C m D) n 0 a=some e):(A4 (Arh L) AhW 4611686018427387905 (Ap5 n C m D 0 a j)).sem=some (exR e) :=
 AW BG hn (λi a j r hi h=>DK.ok (L:=goR (Ap5 n C m D) exR i) (.k (ofNat_lt hi) <| .k (Ae hi) <| .k (Ae (hm ▸ hi)) <| .k (eL (C i).1) <| .k (eL (D i).1) <| .k (AO.1 hs i hi) <| .c (λh1=>.k (eN h1) <| .l) λh1=>.k (eN h1) <| .l) (by kernel_rfl) h) (λa j=>DK.ok (C:=.leaf (Ai1 n C m D a)) (L:=exR) (.k (Az (Nat.le_refl n)) .l) (by kernel_rfl) rfl) (Nat.zero_add _).symm (Nat.lt_succ_of_le hn) h
def Ya:List (Nat×Lp×List (Nat×(Nat->V))):=[(0,AhW,[])]
def Amc (n:Nat) (C:Nat->Nat×(Nat->Int)) (m:Nat) (D:Nat->Nat×(Nat->Int)):AA:=.br (ieq (ofNat n) (ofNat m)) (.br (Bo n λk=>Et (C k).1 (C k).2 (D k).1 (D k).2) (.leaf ((bV true),[])) (.leaf ((bV false),[]))) (.leaf ((bV false),[]))
theorem Aen (n:Nat) (C:Nat->Nat×(Nat->Int)) (m:Nat) (D:Nat->Nat×(Nat->Int)):(Amc n C m D).sem=some (bV (G1 n (λi=>(C i).1) (λi=>(C i).2) m (λi=>(D i).1) (λi=>(D i).2)),[]):=by
 unfold Amc G1;cases ieq (ofNat n) (ofNat m)
 ·rfl
 cases Bo n λk=>Et (C k).1 (C k).2 (D k).1 (D k).2 <;> rfl
theorem Aqw:As Tryz.prog Gl 146 Sa:=by
 refine Am A0 mixed Tryz.func146 (by kernel_rfl) (by kernel_rfl) λvs v h' h=>?_;unfold Sa at h;split at h
 ·rename_i v1 u1
  obtain ⟨n,C,a1,h⟩:=Bv h;obtain ⟨m,D,a2,h⟩:=Bv h;obtain ⟨hn,h⟩:=Ad h;obtain ⟨hs,h⟩:=Ad h;have:=Aa h;simp only [Prod.mk.injEq] at this;obtain ⟨rfl,rfl⟩:=this;have w:DK (λa=>a) (Amc n C m D) _:=.c (λh1=>.k (eN h1) <| .c (λh2=>.a (An9 (askL Ya) n C m D (Ch h1) hs (C6 hn) (j:=λ_=>.und) (PY (λ_ _=>rfl) h2)) <| .l) λh2=>.a (An9 (askL Ya) n C m D (Ch h1) hs (C6 hn) (j:=λ_=>.und) (PZ (λ_ _=>rfl) h2)) <| .l) λh1=>.k (eN h1) <| .l
  have hx:=Bd tb106_ok Ya (G:=Gl);exact ⟨_,cxA Gl tb106 Ya,_,(show Bw [v1,u1,.fn 145 []] [.sl 1 n (λu=>.sl 1 (C u).1 (λi=>iV ((C u).2 i))),.sl 1 m (λu=>.sl 1 (D u).1 (λi=>iV ((D u).2 i))),.fn 145 []] from λS w cs hv=>by
   obtain ⟨c,l,rfl,q1,c',l',rfl,q2,q3⟩:=hv;exact ⟨c,_,rfl,a1 S w c q1,c',l',rfl,a2 S w c' q2,q3⟩),rfl,hx.1,hx.2,DK.of (Aen n C m D) w (by kernel_rfl),Aw.refl _⟩
 ·cases h
noncomputable def AmK:AE:=(143,Wg)::(144,We)::(145,IM)::(146,Sa)::[]
theorem Ae9:Ar Tryz.prog Gl AmK:=.cons p103 <| .cons p104 <| .cons AnP <| .cons Aqw .nil
theorem Afi (a b c d e i j k:Bool):Ak a (Ak b (Ak c (Ak d (Ak e (Ak i (Ak j k))))))=Ak a (Ak b (Ak c (Ak d (Ak (Ak e k) (Ak i (Ak j true)))))):=by
 cases a <;> cases b <;> cases c <;> cases d <;> cases e <;> cases i <;> cases j <;> cases k <;> rfl
def C58 (s s':Sh7):AA:=.br (ieq s.arch s'.arch) (.br (ieq s.tt s'.tt) (.br (ieq s.kk s'.kk) (.br (EH s.ne (λi=>s.E i) s'.ne (λi=>s'.E i)) (.br (QB s.nx (λi=>s.X i) s'.nx (λi=>s'.X i)) (.br (Et s.nr s.R s'.nr s'.R) (.leaf ((bV (G1 s.nc (λi=>(s.C i).1) (λi i_1=>(s.C i).2 i_1) s'.nc (λi=>(s'.C i).1) (λi i_1=>(s'.C i).2 i_1))),[])) (.leaf ((bV false),[]))) (.leaf ((bV false),[]))) (.leaf ((bV false),[]))) (.leaf ((bV false),[]))) (.leaf ((bV false),[]))) (.leaf ((bV false),[]))
theorem Ahl (s s':Sh7):(C58 s s').sem=some (bV (IK s s'),[]):=by
 unfold C58 IK;rw [Afi];show _=some (bV (Ak _ (Ak _ (Ak _ (Ak _ (Ak (QB s.nx s.X s'.nx s'.X) _))))),[]);cases ieq s.arch s'.arch
 ·rfl
 cases ieq s.tt s'.tt
 ·rfl
 cases ieq s.kk s'.kk
 ·rfl
 cases EH s.ne s.E s'.ne s'.E
 ·rfl
 cases QB s.nx s.X s'.nx s'.X
 ·rfl
 cases Et s.nr s.R s'.nr s'.R
 ·rfl
 cases G1 s.nc (λi=>(s.C i).1) (λi=>(s.C i).2) s'.nc (λi=>(s'.C i).1) (λi=>(s'.C i).2) <;> rfl
theorem p72:As Tryz.prog Gl 100 Kr:=by
 refine Am A0 mixed Tryz.func100 (by kernel_rfl) (by kernel_rfl) λvs v h' h=>?_;unfold Kr at h;split at h
 ·rename_i v1 u1
  obtain ⟨s,a1,h⟩:=apS_some h;obtain ⟨s',a2,h⟩:=apS_some h;obtain ⟨hn,h⟩:=Ad h;have:=Aa h;simp only [Prod.mk.injEq] at this;obtain ⟨rfl,rfl⟩:=this;have hn:Au s.ne=true∧Au s.nx=true∧Au s.nr=true∧Au s.nc=true∧(Bo s.nc λi=>Au (s.C i).1)=true:=by simpa [Kp,Ak] using hn
  obtain ⟨n1,n2,n3,n4,n5⟩:=hn;have w:DK (λa=>a) (C58 s s') _:=.c (λh1=>.r 6 h1 <| .c (λh2=>.r 6 h2 <| .c (λh3=>.r 5 h3 <| .k (eL s.ne) <| .k (eL s'.ne) <| .k n1 <| .k h3 <| .c (λh4=>.r 5 h4 <| .k (eL s.nx) <| .k (eL s'.nx) <| .k n2 <| .k h4 <| .c (λh5=>.r 5 h5 <| .k (eL s.nr) <| .k (eL s'.nr) <| .k n3 <| .k h5 <| .c (λh6=>.r 5 h6 <| .k (eL2 s.nc s.C) <| .k (eL2 s'.nc s'.C) <| .k n4 <| .k n5 <| .k h6 <| .l) λh6=>.r 6 h6 <| .l) λh5=>.r 6 h5 <| .r 6 eF <| .l) λh4=>.r 6 h4 <| .r 12 eF <| .l) λh3=>.r 6 h3 <| .r 18 eF <| .l) λh2=>.r 6 h2 <| .r 24 eF <| .l) λh1=>.r 6 h1 <| .r 30 eF <| .l
  have hx:=Bd Ae9 [] (G:=Gl);exact ⟨_,cxA Gl AmK [],_,(show Bw [v1,u1] [E2 s,E2 s'] from λS w cs hv=>by
   obtain ⟨c,l,rfl,q1,c',l',rfl,q2,q3⟩:=hv;exact ⟨c,_,rfl,a1 S w c q1,c',l',rfl,a2 S w c' q2,q3⟩),rfl,hx.1,hx.2,DK.of (Ahl s s') w (by kernel_rfl),Aw.refl _⟩
 ·cases h
end Go.Proofs.YtkbafjceglhjhaaGreatDoor.Sh
namespace Go.Proofs.YtkbafjceglhjhaaGreatDoor.Sh
open Go.Sy Ed
open Int (ofNat)
set_option maxHeartbeats 1000000
set_option maxRecDepth 4000
def ofS (a:Int) (n:Nat) (f:Nat->E6):Sh7:=⟨a,n,shG n f,n,evF n (shG n f) (λ_=>true),ofNat (ttN n (shG n f)),ofNat (kkN n (shG n f)),n,rfF n (shG n f) (λ_=>true),kkN n (shG n f),
 λk=>(lnN (mbF (shG n f)) (wrF (shG n f)) n k,λi=>ofNat (coN (mbF (shG n f)) (wrF (shG n f)) n k i))⟩
def Dl (s:Sh7):Bool:=Ak (ieq (Hw s.arch s.ne s.E) 0) (IK s (ofS s.arch s.ne s.E))
def K9:List V->AA
 | [v]=>apS v λs=>.br (Dg s.ne) (.br (Kp s) (.leaf (iV (sel (Dl s) 0 70),[])) .fail) .fail
 | _=>.fail
theorem AdL {a:Int} {n:Nat} {f:Nat->E6} (h:ilt 16 (ofNat n)=true):ieq (Hw a n f) 0=false:=by
 cases hc:ieq (Hw a n f) 0 with
 | false=>rfl
 | true =>have:=(Bt hc).hi;rw [show (16:Int)=ofNat 16 from rfl,DI] at h;have:=of_decide_eq_true h;omega
noncomputable def AeS:AE:=(99,ofT)::(100,Kr)::[]
theorem AeR:Ar Tryz.prog Gl AeS:=.cons p14 <| .cons p72 .nil
noncomputable def AeJ:AE:=(68,ofT)::(102,Kr)::[]
theorem AeI:Ar Tryz.prog Gl AeJ:=.cons p15 <| .cons p16 .nil
section
variable (L:LT) (a:Int) (n:Nat) (g:Nat->E6) (m:Nat) (x:Nat->Ev5) (t k:Int) (p:Nat) (r:Nat->Int) (q:Nat) (ln:Nat->Nat) (co:Nat->Nat->Int)
include L a n g m x t k p r q ln co
theorem ApT (h17:Dg n=true) (h0:ieq (Hw a n g) 0=true) (h18:BP [.cells (shL a n g m x t k p r q ln co),.row 76 6 n (λi=>eV (shG n g i)),.row 74 5 n (λi=>evV (evF n (shG n g) (λ_=>true) i)),.row 3 1 n (λi=>iV (rfF n (shG n g) (λ_=>true) i)),.jag (Jag.mk 24 1 (kkN n (shG n g)) Ab 0 3 1 (λ_=>true) (lnN (mbF (shG n g)) (wrF (shG n g)) n) (λk i=>iV (ofNat (coN (mbF (shG n g)) (wrF (shG n g)) n k i))) none),.cells [iV a,.ref 1,.ref 2,iV (ofNat (ttN n (shG n g))),iV (ofNat (kkN n (shG n g))),.ref 3,.jref 4]]=true) (h19:Bo q (λi=>Bo (ln i) (λ_=>true))=true) (h20:Bo (kkN n (shG n g)) (λi=>Bo (lnN (mbF (shG n g)) (wrF (shG n g)) n i) (λ_=>true))=true) (h21:Au n=true) (h22:Au m=true) (h23:Au p=true) (h24:Au q=true) (h25:Bo q (λi=>Au (ln i))=true) (h1:Ak (ieq a a) (Ak (ieq t (ofNat (ttN n (shG n g)))) (Ak (ieq k (ofNat (kkN n (shG n g)))) (Ak (EH n g n (λi=>shG n g i)) (Ak (ieq (ofNat m) (ofNat n)) (Ak (Et p r n (rfF n (shG n g) (λ_=>true))) (Ak (G1 q ln (λi i_1=>co i i_1) (kkN n (shG n g)) (lnN (mbF (shG n g)) (wrF (shG n g)) n) (λi i_1=>ofNat (coN (mbF (shG n g)) (wrF (shG n g)) n i i_1))) (Bo m (λk=>I3 (x k) (evF n (shG n g) (λ_=>true) k)))))))))=false):(Ay (Aj tab ⟨A2 AeS,L,Gl⟩ Tryz.f60 [.agg (shL a n g m x t k p r q ln co)] [])).sem=some ((iV 70),[]):=by
 exact Af (ks:=[kL n,kn h17,kn h0,kN (kI 0),kN (kI 0),kN (kI 0),kn h18,kL n,kL m,kL p,kn h19,kL n,kL n,kL n,kn h20,kA (kn h21) (kA (kn h22) (kA (kn h23) (kA (kn h24) (kn h25)))),kN (kI 0),kN (kI 0),kN (kn h1)]) (by kernel_rfl)
theorem ApS (h17:Dg n=true) (h0:ieq (Hw a n g) 0=true) (h18:BP [.cells (shL a n g m x t k p r q ln co),.row 76 6 n (λi=>eV (shG n g i)),.row 74 5 n (λi=>evV (evF n (shG n g) (λ_=>true) i)),.row 3 1 n (λi=>iV (rfF n (shG n g) (λ_=>true) i)),.jag (Jag.mk 24 1 (kkN n (shG n g)) Ab 0 3 1 (λ_=>true) (lnN (mbF (shG n g)) (wrF (shG n g)) n) (λk i=>iV (ofNat (coN (mbF (shG n g)) (wrF (shG n g)) n k i))) none),.cells [iV a,.ref 1,.ref 2,iV (ofNat (ttN n (shG n g))),iV (ofNat (kkN n (shG n g))),.ref 3,.jref 4]]=true) (h19:Bo q (λi=>Bo (ln i) (λ_=>true))=true) (h20:Bo (kkN n (shG n g)) (λi=>Bo (lnN (mbF (shG n g)) (wrF (shG n g)) n i) (λ_=>true))=true) (h21:Au n=true) (h22:Au m=true) (h23:Au p=true) (h24:Au q=true) (h25:Bo q (λi=>Au (ln i))=true) (h1:Ak (ieq a a) (Ak (ieq t (ofNat (ttN n (shG n g)))) (Ak (ieq k (ofNat (kkN n (shG n g)))) (Ak (EH n g n (λi=>shG n g i)) (Ak (ieq (ofNat m) (ofNat n)) (Ak (Et p r n (rfF n (shG n g) (λ_=>true))) (Ak (G1 q ln (λi i_1=>co i i_1) (kkN n (shG n g)) (lnN (mbF (shG n g)) (wrF (shG n g)) n) (λi i_1=>ofNat (coN (mbF (shG n g)) (wrF (shG n g)) n i i_1))) (Bo m (λk=>I3 (x k) (evF n (shG n g) (λ_=>true) k)))))))))=true):(Ay (Aj tab ⟨A2 AeS,L,Gl⟩ Tryz.f60 [.agg (shL a n g m x t k p r q ln co)] [])).sem=some ((iV 0),[]):=by
 exact Af (ks:=[kL n,kn h17,kn h0,kN (kI 0),kN (kI 0),kN (kI 0),kn h18,kL n,kL m,kL p,kn h19,kL n,kL n,kL n,kn h20,kA (kn h21) (kA (kn h22) (kA (kn h23) (kA (kn h24) (kn h25)))),kN (kI 0),kN (kI 0),kN (kn h1)]) (by kernel_rfl)
end
theorem p25:As Tryz.prog Gl 60 K9:=by
 refine Am A0 mixed Tryz.func60 (by kernel_rfl) (by kernel_rfl) λvs v h' h=>?_;unfold K9 at h;split at h
 ·rename_i v1
  obtain ⟨s,a1,h⟩:=apS_some h;obtain ⟨hf,h⟩:=Ad h;obtain ⟨hn,h⟩:=Ad h;have:=Aa h;simp only [Prod.mk.injEq] at this;obtain ⟨rfl,rfl⟩:=this;obtain ⟨a,n,g,m,x,t,k,p,r,q,C⟩:=s;have hA:Bw [v1] [.agg [iV a,.sl 6 n (λi=>eV (g i)),.sl 5 m (λi=>evV (x i)),iV t,iV k,.sl 1 p (λi=>iV (r i)),.sl 1 q (λu=>.sl 1 (C u).1 (λi=>iV ((C u).2 i)))]]:=λS w cs hv=>by
   obtain ⟨c,l,rfl,q1,q2⟩:=hv;exact ⟨c,_,rfl,a1 S w c q1,q2⟩
  have hn:Au n=true∧Au m=true∧Au p=true∧Au q=true∧(Bo q λi=>Au (C i).1)=true:=by simpa [Kp,Ak] using hn
  obtain ⟨n1,n2,n3,n4,n5⟩:=hn;have hx:=Bs AeR [] (G:=Gl);refine ⟨_,AT Gl AeS [],_,hA,rfl,hx.1,hx.2,?_,Aw.refl _⟩;have all2:∀ (q:Nat) (ln:Nat->Nat),(Bo q λi=>Bo (ln i) λ_=>true)=true:=λ_ _=>AO.2 λ_ _=>AO.2 λ_ _=>rfl;show _=some (iV (sel (Dl ⟨a,n,g,m,x,t,k,p,r,q,C⟩) 0 70),_);revert n5;generalize hln:(λi=>(C i).1)=ln;generalize hco:(λi=>(C i).2)=co;have e1:∀ u,(C u).1=ln u:=λu=>by rw [<- hln]
  have e2:∀ u,(C u).2=co u:=λu=>by rw [<- hco]
  have hC:C=λu=>(ln u,co u):=by
   funext u;rw [<- e1,<- e2]
  intro n5;simp only [e1,e2] at n5 ⊢;subst hC;cases hc:ieq (Hw a n g) 0 with
  | false =>rw [show Dl _=false from band_f hc];exact Af (ks:=[kL n,kn hf,kn hc,kN (kn hc),kN (kn hc),kN (kn hc),kN (kn hc),kN (kn hc),kT]) (by kernel_rfl)/-W:w25e-/
  | true =>
   rw [show Dl _=_ from EA hc];cases hs:IK ⟨a,n,g,m,x,t,k,p,r,q,λu=>(ln u,co u)⟩ (ofS a n g) with
   | false=>exact ApT _ a n g m x t k p r q ln co hf hc (by simp [BP]) (all2 _ _) (all2 _ _) n1 n2 n3 n4 n5 hs
   | true=>exact ApS _ a n g m x t k p r q ln co hf hc (by simp [BP]) (all2 _ _) (all2 _ _) n1 n2 n3 n4 n5 hs
 ·cases h
section
variable (L:LT) (a:Int) (n:Nat) (g:Nat->E6) (m:Nat) (x:Nat->Ev5) (t k:Int) (p:Nat) (r:Nat->Int) (q:Nat) (ln:Nat->Nat) (co:Nat->Nat->Int)
include L a n g m x t k p r q ln co
theorem ApR (h0:ilt 16 (ofNat n)=false) (h18:Dg n=true) (h1:ieq (Hw a n g) 0=true) (h19:BP [.cells (shL a n g m x t k p r q ln co),.row 76 6 n (λi=>eV (shG n g i)),.row 74 5 n (λi=>evV (evF n (shG n g) (λ_=>true) i)),.row 3 1 n (λi=>iV (rfF n (shG n g) (λ_=>true) i)),.jag (Jag.mk 24 1 (kkN n (shG n g)) Ab 0 3 1 (λ_=>true) (lnN (mbF (shG n g)) (wrF (shG n g)) n) (λk i=>iV (ofNat (coN (mbF (shG n g)) (wrF (shG n g)) n k i))) none),.cells [iV a,.ref 1,.ref 2,iV (ofNat (ttN n (shG n g))),iV (ofNat (kkN n (shG n g))),.ref 3,.jref 4]]=true) (h20:Bo q (λi=>Bo (ln i) (λ_=>true))=true) (h21:Bo (kkN n (shG n g)) (λi=>Bo (lnN (mbF (shG n g)) (wrF (shG n g)) n i) (λ_=>true))=true) (h22:Au n=true) (h23:Au m=true) (h24:Au p=true) (h25:Au q=true) (h26:Bo q (λi=>Au (ln i))=true) (h2:Ak (ieq a a) (Ak (ieq t (ofNat (ttN n (shG n g)))) (Ak (ieq k (ofNat (kkN n (shG n g)))) (Ak (EH n g n (λi=>shG n g i)) (Ak (ieq (ofNat m) (ofNat n)) (Ak (Et p r n (rfF n (shG n g) (λ_=>true))) (Ak (G1 q ln (λi i_1=>co i i_1) (kkN n (shG n g)) (lnN (mbF (shG n g)) (wrF (shG n g)) n) (λi i_1=>ofNat (coN (mbF (shG n g)) (wrF (shG n g)) n i i_1))) (Bo m (λk=>I3 (x k) (evF n (shG n g) (λ_=>true) k)))))))))=false):(Ay (Aj tab ⟨A2 AeJ,L,Gl⟩ Tryz.f64 [.agg (shL a n g m x t k p r q ln co)] [])).sem=some ((iV 70),[]):=by
 exact Af (ks:=[kn h0,kL n,kn h18,kn h1,kN (kI 0),kN (kI 0),kN (kI 0),kn h19,kL n,kL m,kL p,kn h20,kL n,kL n,kL n,kn h21,kA (kn h22) (kA (kn h23) (kA (kn h24) (kA (kn h25) (kn h26)))),kN (kI 0),kN (kI 0),kN (kn h2)]) (by kernel_rfl)
theorem ApQ (h0:ilt 16 (ofNat n)=false) (h18:Dg n=true) (h1:ieq (Hw a n g) 0=true) (h19:BP [.cells (shL a n g m x t k p r q ln co),.row 76 6 n (λi=>eV (shG n g i)),.row 74 5 n (λi=>evV (evF n (shG n g) (λ_=>true) i)),.row 3 1 n (λi=>iV (rfF n (shG n g) (λ_=>true) i)),.jag (Jag.mk 24 1 (kkN n (shG n g)) Ab 0 3 1 (λ_=>true) (lnN (mbF (shG n g)) (wrF (shG n g)) n) (λk i=>iV (ofNat (coN (mbF (shG n g)) (wrF (shG n g)) n k i))) none),.cells [iV a,.ref 1,.ref 2,iV (ofNat (ttN n (shG n g))),iV (ofNat (kkN n (shG n g))),.ref 3,.jref 4]]=true) (h20:Bo q (λi=>Bo (ln i) (λ_=>true))=true) (h21:Bo (kkN n (shG n g)) (λi=>Bo (lnN (mbF (shG n g)) (wrF (shG n g)) n i) (λ_=>true))=true) (h22:Au n=true) (h23:Au m=true) (h24:Au p=true) (h25:Au q=true) (h26:Bo q (λi=>Au (ln i))=true) (h2:Ak (ieq a a) (Ak (ieq t (ofNat (ttN n (shG n g)))) (Ak (ieq k (ofNat (kkN n (shG n g)))) (Ak (EH n g n (λi=>shG n g i)) (Ak (ieq (ofNat m) (ofNat n)) (Ak (Et p r n (rfF n (shG n g) (λ_=>true))) (Ak (G1 q ln (λi i_1=>co i i_1) (kkN n (shG n g)) (lnN (mbF (shG n g)) (wrF (shG n g)) n) (λi i_1=>ofNat (coN (mbF (shG n g)) (wrF (shG n g)) n i i_1))) (Bo m (λk=>I3 (x k) (evF n (shG n g) (λ_=>true) k)))))))))=true):(Ay (Aj tab ⟨A2 AeJ,L,Gl⟩ Tryz.f64 [.agg (shL a n g m x t k p r q ln co)] [])).sem=some ((iV 0),[]):=by
 exact Af (ks:=[kn h0,kL n,kn h18,kn h1,kN (kI 0),kN (kI 0),kN (kI 0),kn h19,kL n,kL m,kL p,kn h20,kL n,kL n,kL n,kn h21,kA (kn h22) (kA (kn h23) (kA (kn h24) (kA (kn h25) (kn h26)))),kN (kI 0),kN (kI 0),kN (kn h2)]) (by kernel_rfl)
end
theorem p39:As Tryz.prog Gl 64 K9:=by
 refine Am A0 mixed Tryz.func64 (by kernel_rfl) (by kernel_rfl) λvs v h' h=>?_;unfold K9 at h;split at h
 ·rename_i v1
  obtain ⟨s,a1,h⟩:=apS_some h;obtain ⟨hf,h⟩:=Ad h;obtain ⟨hn,h⟩:=Ad h;have:=Aa h;simp only [Prod.mk.injEq] at this;obtain ⟨rfl,rfl⟩:=this;obtain ⟨a,n,g,m,x,t,k,p,r,q,C⟩:=s;have hA:Bw [v1] [.agg [iV a,.sl 6 n (λi=>eV (g i)),.sl 5 m (λi=>evV (x i)),iV t,iV k,.sl 1 p (λi=>iV (r i)),.sl 1 q (λu=>.sl 1 (C u).1 (λi=>iV ((C u).2 i)))]]:=λS w cs hv=>by
   obtain ⟨c,l,rfl,q1,q2⟩:=hv;exact ⟨c,_,rfl,a1 S w c q1,q2⟩
  have hn:Au n=true∧Au m=true∧Au p=true∧Au q=true∧(Bo q λi=>Au (C i).1)=true:=by simpa [Kp,Ak] using hn
  obtain ⟨n1,n2,n3,n4,n5⟩:=hn;have hx:=Bs AeI [] (G:=Gl);refine ⟨_,AT Gl AeJ [],_,hA,rfl,hx.1,hx.2,?_,Aw.refl _⟩;have all2:∀ (q:Nat) (ln:Nat->Nat),(Bo q λi=>Bo (ln i) λ_=>true)=true:=λ_ _=>AO.2 λ_ _=>AO.2 λ_ _=>rfl;show _=some (iV (sel (Dl ⟨a,n,g,m,x,t,k,p,r,q,C⟩) 0 70),_);revert n5;generalize hln:(λi=>(C i).1)=ln;generalize hco:(λi=>(C i).2)=co;have e1:∀ u,(C u).1=ln u:=λu=>by rw [<- hln]
  have e2:∀ u,(C u).2=co u:=λu=>by rw [<- hco]
  have hC:C=λu=>(ln u,co u):=by
   funext u;rw [<- e1,<- e2]
  intro n5;simp only [e1,e2] at n5 ⊢;subst hC;cases h16:ilt 16 (ofNat n) with
  | true =>have hc:ieq (Hw a n g) 0=false:=AdL h16;rw [show Dl _=false from band_f hc];exact Af (ks:=[kn h16]) (by kernel_rfl)/-W:w39l-/
  | false =>
  cases hc:ieq (Hw a n g) 0 with
  | false =>rw [show Dl _=false from band_f hc];exact Af (ks:=[kn h16,kL n,kn hf,kn hc,kN (kn hc),kN (kn hc),kN (kn hc),kN (kn hc),kN (kn hc),kT]) (by kernel_rfl)/-W:w39e-/
  | true =>
   rw [show Dl _=_ from EA hc];cases hs:IK ⟨a,n,g,m,x,t,k,p,r,q,λu=>(ln u,co u)⟩ (ofS a n g) with
   | false=>exact ApR _ a n g m x t k p r q ln co h16 hf hc (by simp [BP]) (all2 _ _) (all2 _ _) n1 n2 n3 n4 n5 hs
   | true=>exact ApQ _ a n g m x t k p r q ln co h16 hf hc (by simp [BP]) (all2 _ _) (all2 _ _) n1 n2 n3 n4 n5 hs
 ·cases h
end Go.Proofs.YtkbafjceglhjhaaGreatDoor.Sh
namespace Go.Proofs.YtkbafjceglhjhaaGreatDoor.Er
open Go.Sy Go Go.Proofs.YtkbafjceglhjhaaGreatDoor.Ed Go.Proofs.YtkbafjceglhjhaaGreatDoor.Sh
set_option maxRecDepth 100000
set_option maxHeartbeats 1000000
theorem bFA (b:Bool):(false && b)=false:=rfl
theorem bFO (b:Bool):(false || b)=b:=rfl
theorem bTA (b:Bool):(true && b)=b:=rfl
theorem bTO (b:Bool):(true || b)=true:=rfl
def shT (C:Sh7->AA):List V->AA
 | [v]=>apS v C
 | _=>.fail
theorem QK {k:FuncId} {fn:Func} (hf:Tryz.prog.funcs[k]? = some fn) (hb:fn.body.isSome=true) (hn:(fn.name == "runtime.NumGoroutine")=false) {Γ:Sh7->Cx} (hG:∀ s,(Γ s).glob=Gl) (hc:∀ s,Bi Tryz.prog (Γ s).base∧BU (Γ s))
  {C:Sh7->AA} (h:∀ s r,(C s).sem=some r->(Ay (Aj tab (Γ s) fn [E2 s] [])).sem=some r):As Tryz.prog Gl k (shT C):=by
 refine Am A0 mixed hf hb hn λvs v h' hv=>?_;unfold shT at hv;split at hv
 ·obtain ⟨s,a1,hv⟩:=apS_some hv
  exact ⟨[E2 s],Γ s,h',λS w cs hq=>by
   obtain ⟨c,l,rfl,q1,q2⟩:=hq;exact ⟨c,_,rfl,a1 S w c q1,q2⟩,hG s,(hc s).1,(hc s).2,h s _ hv,Aw.refl _⟩
 ·cases hv
def Iz (n:Nat) (f:Nat->Int) (lc:Int):Int:=bif isN (AZ (λk=>ieq (f k) lc) n 0) then 0 else wr .i64 (Ai 7 (Int.ofNat (tO (λk=>ieq (f k) lc) n)))
def AgY:List V->AA
 | [.agg [v,.anym],.val (.int .i64 lc)]=>apI v λn f=>.br (Au n) (.leaf (iV (Iz n f lc),[])) .fail
 | _=>.fail
def Aoo:Lp:=⟨bmK 21 0 [1,2,4,8,9,10],1,bmK 21 0 [4],0,4611686018427387905⟩
def S61 (n:Nat) (f:Nat->Int) (lc:Int) (c:Int) (a:Unit) (j:Nat->V):St:=⟨jsV 21 0 j [(1,iV lc),(2,.ptr 0 0),(4,iV 0),(8,.sl 1 n (λk=>iV (f k))),(9,nV n),(10,iV c)],[.cells [.sl 1 n (λk=>iV (f k)),.anym]]⟩
noncomputable def B61 (L:LT):St->T (Ex×St):=λst=>AK tab ⟨A2 tb0,L,Gl⟩ (A3 Tryz.f61 0) 0 st
def Ahq (n:Nat) (f:Nat->Int) (lc:Int) (i:Nat) (a:Unit):Ex×St:=(.rt,⟨jsV 21 0 Ab [(4,iV (wr .i64 (Ai 7 (Int.ofNat i))))],[]⟩)
def g61 (n:Nat) (f:Nat->Int) (lc:Int) (i:Nat) (a:Unit):T ((Unit) ⊕ (Ex×St)):=.br (ieq (f i) lc) (.leaf (.inr (Ahq n f lc i a))) (.leaf (.inl ()))
def AoU (n:Nat) (f:Nat->Int) (lc:Int) (a:Unit):Ex×St:=(.ex 0,⟨jsV 21 0 Ab [(4,iV 0)],[]⟩)
theorem r61 (L:LT) (n:Nat) (f:Nat->Int) (lc:Int)  (hn:n <= 4611686018427387904) {e:Ex×St} {a:Unit} {j:Nat->V} (h:Cm (g61 n f lc) (AoU n f lc) n 0 a=some e):(A4 (B61 L) Aoo 4611686018427387905 (S61 n f lc 0 a j)).sem=some (exR e) :=
 AW BG hn (λi a j r hi h=>DK.ok (L:=goR (S61 n f lc) exR i) (.k (ofNat_lt hi) <| .k (Ae hi) <| .c (λh1=>.k h1 <| .l) λh1=>.k h1 <| .l) (by kernel_rfl) h) (λa j=>DK.ok (C:=.leaf (AoU n f lc a)) (L:=exR) (.k (Az (Nat.le_refl n)) .l) (by kernel_rfl) rfl) (Nat.zero_add _).symm (Nat.lt_succ_of_le hn) h
def AfK:List (Nat×Lp×List (Nat×(Nat->V))):=[(0,Aoo,[])]
theorem Ai0 (n:Nat) (f:Nat->Int) (lc:Int) (i:Nat) (_:i<n) (h:(λk=>ieq (f k) lc) i=false):(g61 n f lc i ()).sem=some (.inl ()):=by
 replace h:ieq (f i) lc=false:=h
 show sel (ieq (f i) lc) _ _=_;rw [h];rfl
theorem Aiz (n:Nat) (f:Nat->Int) (lc:Int) (i:Nat) (_:i<n) (h:(λk=>ieq (f k) lc) i=true):(g61 n f lc i ()).sem=some (.inr (Ahq n f lc i ())):=by
 replace h:ieq (f i) lc=true:=h
 show sel (ieq (f i) lc) _ _=_;rw [h];rfl
def C61 (n:Nat) (f:Nat->Int) (lc:Int):AA:=.br (isN (AZ (λk=>ieq (f k) lc) n 0)) (.leaf ((iV 0),[])) (.leaf ((iV (wr .i64 (Ai 7 (Int.ofNat (tO (λk=>ieq (f k) lc) n))))),[]))
theorem Ahk (n:Nat) (f:Nat->Int) (lc:Int):(C61 n f lc).sem=some (iV (Iz n f lc),[]):=by
 unfold C61 Iz;cases isN (AZ (λk=>ieq (f k) lc) n 0) <;> rfl
theorem p61:As Tryz.prog Gl 61 AgY:=by
 refine Am A0 mixed Tryz.func61 (by kernel_rfl) (by kernel_rfl) λvs v h' h=>?_;unfold AgY at h;split at h
 ·rename_i u lc
  obtain ⟨n,f,ha,h⟩:=FG h;obtain ⟨hn,h⟩:=Ad h;have:=Aa h;simp only [Prod.mk.injEq] at this;obtain ⟨rfl,rfl⟩:=this;have w:DK (λa=>a) (C61 n f lc) _:=.c (λh1=>.a (r61 (Go.Sy.askL AfK) n f lc (C6 hn) (j:=λ_=>.und) (Py (acc:=λ_=>()) (Ai0 n f lc) (Aiz n f lc) h1)) <| .l) λh1=>.a (r61 (Go.Sy.askL AfK) n f lc (C6 hn) (j:=λ_=>.und) (Px (acc:=λ_=>()) (Ai0 n f lc) (Aiz n f lc) h1)) <| .l
  have hx:=Bd C5 AfK (G:=Gl);exact ⟨_,cxA Gl tb0 AfK,_,(show Bw [.agg [u,.anym],iV lc] [.agg [.sl 1 n (λk=>iV (f k)),.anym],iV lc] from λS w cs hv=>by
   obtain ⟨c,l,rfl,⟨ca,rfl,c1,l1,rfl,q1,q2⟩,q3⟩:=hv;exact ⟨_,l,rfl,⟨_,rfl,c1,_,rfl,ha S w c1 q1,q2⟩,q3⟩),rfl,hx.1,hx.2,DK.of (Ahk n f lc) w (by kernel_rfl),Aw.refl _⟩
 ·cases h
noncomputable def AmO:AE:=(60,K9)::[]
theorem AeM:Ar Tryz.prog Gl AmO:=.cons p25 .nil
noncomputable def AmN:AE:=(64,K9)::[]
theorem AeK:Ar Tryz.prog Gl AmN:=.cons p39 .nil
def FK (s:Sh7):Int:=bif Dl s then (bif ieq s.arch 2 then 0 else 5) else 70
def TL (s:Sh7):AA:=.br (Dg s.ne) (.br (Kp s) (.leaf (iV (FK s),[])) .fail) .fail
def C33 (s:Sh7):AA:=.br (Dg s.ne) (.br (Ak (Au s.ne) (Ak (Au s.nx) (Ak (Au s.nr) (Ak (Au s.nc) (Bo s.nc (λi=>Au (s.C i).1)))))) (.br (ieq (sel (Dl s) 0 70) 0) (.br (ieq s.arch 2) (.leaf ((iV 0),[])) (.leaf ((iV 5),[]))) (.leaf ((iV 70),[]))) .fail) .fail
theorem Aeo (s:Sh7) (r:V×List Blk) (h:(TL s).sem=some r):(C33 s).sem=some r:=by
 obtain ⟨h1,h⟩:=Ad h;obtain ⟨h2,h⟩:=Ad h;have h2:Ak (Au s.ne) (Ak (Au s.nx) (Ak (Au s.nr) (Ak (Au s.nc) (Bo s.nc (λi=>Au (s.C i).1)))))=true:=h2;unfold C33;rw [h1,h2];rw [<- h];unfold FK;cases Dl s <;> cases ieq s.arch 2 <;> rfl
theorem p33:As Tryz.prog Gl 33 (shT TL):=QK Tryz.func33 (by kernel_rfl) (by kernel_rfl) (Γ:=λ_=>cxA Gl AmO []) (λ_=>rfl) (λ_=>Bd AeM [])
 λs r h=>DK.of (Aeo s r h) (.k (eL s.ne) <| .k (eL s.nx) <| .k (eL s.nr) <| .k (eL2 s.nc s.C) <| .g λh1=>.k h1 <| .g λh2=>.k h2 <| .c (λh3=>.k (eN h3) <| .c (λh4=>.k (eN h4) <| .l) λh4=>.k (eN h4) <| .l) λh3=>.k (eN h3) <| .l) (by kernel_rfl)
theorem p36:As Tryz.prog Gl 36 (shT TL):=QK Tryz.func36 (by kernel_rfl) (by kernel_rfl) (Γ:=λ_=>cxA Gl AmN []) (λ_=>rfl) (λ_=>Bd AeK [])
 λs r h=>DK.of (Aeo s r h) (.k (eL s.ne) <| .k (eL s.nx) <| .k (eL s.nr) <| .k (eL2 s.nc s.C) <| .g λh1=>.k h1 <| .g λh2=>.k h2 <| .c (λh3=>.k (eN h3) <| .c (λh4=>.k (eN h4) <| .l) λh4=>.k (eN h4) <| .l) λh3=>.k (eN h3) <| .l) (by kernel_rfl)
end Go.Proofs.YtkbafjceglhjhaaGreatDoor.Er
