/-
  Layer 12: comparisons of what is the same; marks. No conditions.
-/
import Derived.Test.YtkbafjceglhjhaaGreatDoorEsC
import Derived.Test.YtkbafjceglhjhaaGreatDoorCyZ
namespace Go.Proofs.YtkbafjceglhjhaaGreatDoor.Er
open Go.Sy Go Go.Proofs.YtkbafjceglhjhaaGreatDoor.Ed Go.Proofs.YtkbafjceglhjhaaGreatDoor.Sh
open Int (ofNat)
set_option maxRecDepth 100000
set_option maxHeartbeats 1000000
def okL {α:Type} (c:Cod α) (v:V):Bool:=match P7 c.size v with
 | some (n,g)=>Bi n λi=>c.ok (g i)
 | none=>false
def edL {α:Type} (c:Cod α) (v:V):Nat×(Nat->α):=match P7 c.size v with
 | some (n,g)=>(n,λi=>c.ed (g i))
 | none=>(0,λ_=>c.ed .und)
def Zq {α:Type} (c:Cod α):Cod (Nat×(Nat->α)):=⟨1,λp=>Ez c p.1 p.2,okL c,edL c,λv h S w u hv=>by
 unfold okL at h;unfold edL;split at h
 ·rename_i n g hg
  have h:=AE.1 h;exact KD hg (λi hi S w cc hc=>c.law _ (h i hi) S w cc hc) hv
 ·cases h⟩
structure Ini5 where
 th:Int
 rg:Int
 lc:List UInt8
 nm:List UInt8
 nn:Int
def i5V (e:Ini5):V:=.agg [iV e.th,iV e.rg,.str e.lc,.str e.nm,iV e.nn]
def Ad2:V->Option Ini5
 | .agg [.val (.int .i64 a),.val (.int .i64 b),.str c,.str d,.val (.int .i64 e)]=>some ⟨a,b,c,d,e⟩
 | _=>none
theorem Yq {v:V} {e:Ini5} (h:Ad2 v=some e):v=i5V e:=by
 unfold Ad2 at h;split at h
 ·simp only [Option.some.injEq] at h
  subst h;rfl
 ·cases h
def AjB (v:V):Bool:=match Ad2 v with
 | some _=>true
 | none=>false
def Ako (v:V):Ini5:=match Ad2 v with
 | some e=>e
 | none=>⟨0,0,[],[],0⟩
theorem YF {v:V} (h:AjB v=true):v=i5V (Ako v):=by
 unfold AjB at h;unfold Ako;split at h
 ·rename_i e he
  exact Yq he
 ·cases h
def Zr:Cod Ini5:=⟨5,i5V,AjB,Ako,λv h S w c hv=>by rw [<- YF h]; exact hv⟩
theorem Xk {α:Type} {c:Cod α} {n:Nat} {f g:Nat->α} (h:∀ i,i<n->∀ (S:Nat->Prop) (w:World) (u:Value),VR S w (c.enc (f i)) noK u->VR S w (c.enc (g i)) noK u) {S:Nat->Prop} {w:World} {u:Value} (hv:VR S w (Ez c n f) noK u):VR S w (Ez c n g) noK u :=
 KD (s:=c.size) (v:=Ez c n f) (g:=λi=>c.enc (f i)) (by unfold P7 Ez; simp) h hv
theorem LF {α:Type} {c:Cod α} {n:Nat} {f g:Nat->α} (h:∀ i,i<n->f i=g i) {S:Nat->Prop} {w:World} {u:Value} (hv:VR S w (Ez c n f) noK u):VR S w (Ez c n g) noK u:=Xk (λi hi S w u hv=>by rw [<- h i hi]; exact hv) hv
theorem R7 {α:Type} {c:Cod α} {n:Nat} {f g:Nat->Nat×(Nat->α)} (h:∀ i,i<n->(f i).1=(g i).1∧∀ k,k<(f i).1->(f i).2 k=(g i).2 k) {S:Nat->Prop} {w:World} {u:Value} (hv:VR S w (Ez (Zq c) n f) noK u):VR S w (Ez (Zq c) n g) noK u :=
 Xk (c:=Zq c) (λi hi S w u hv=>by
  have h1:=LF (c:=c) (h i hi).2 hv;show VR S w (Ez c (g i).1 (g i).2) noK u;rw [<- (h i hi).1];exact h1) hv
theorem eq8 (e:In8):Aj (ieq e.op e.op) (Aj (ieq e.d e.d) (Aj (ieq e.a e.a) (Aj (ieq e.b e.b) (Aj (ieq e.imm e.imm) (Aj (seq e.loc e.loc) (Aj (seq e.lab e.lab) (Aj (ieq e.fc e.fc) true)))))))=true:=by simp [Aj,ieq,seq]
theorem eq5 (e:Ini5):Aj (ieq e.th e.th) (Aj (ieq e.rg e.rg) (Aj (seq e.lc e.lc) (Aj (Aj (seq e.nm e.nm) (Aj (ieq e.nn e.nn) true)) true)))=true:=by simp [Aj,ieq,seq]
theorem ltI (x:Int):ilt x x=false:=by simp [ilt]
section
variable (n:Nat) (C:Nat->Nat×(Nat->In8))
def Adf (u:Nat) (c:Int):St:=⟨jsV 53 0 Ab [(0,.sl 1 n (λu=>.sl 8 (C u).1 (λk=>i8V ((C u).2 k)))),(1,.sl 1 n (λu=>.sl 8 (C u).1 (λk=>i8V ((C u).2 k)))),(5,nV u),(6,iV c)],[]⟩
def T15 (c:Int):St:=⟨jsV 53 0 Ab [(0,.sl 1 n (λu=>.sl 8 (C u).1 (λk=>i8V ((C u).2 k)))),(1,.sl 1 n (λu=>.sl 8 (C u).1 (λk=>i8V ((C u).2 k)))),(5,iV c)],[]⟩
end
def Abu:Lp:=⟨bmK 53 0 [0,1,5,6],0,bmK 53 0 [0,1,5],0,4611686018427387905⟩
def Ann:Lp:=⟨bmK 53 0 [0,1,5],0,bmK 53 0 [],0,4611686018427387905⟩
def AeR:List (Nat×Lp×List (Nat×(Nat->V))):=[(0,Ann,[]),(2,Abu,[])]
noncomputable def B15 (id:Nat) (L:LT):St->T (Ex×St):=λst=>A8 tab ⟨Ax tb0,L,Gl⟩ (As Tryz.f15 id) id st
section
variable {n:Nat} {C:Nat->Nat×(Nat->In8)}
theorem Amy {u:Nat} (hu:u<n) (hn:(C u).1 <= 4611686018427387904):(Au (B15 2 (Go.Sy.askL AeR)) Abu 4611686018427387905 (Adf n C u 0)).sem=some (.ex 2,T15 n C (ofNat u)) :=
 B6 (S:=λi=>Adf n C u (ofNat i)) (m:=(C u).1) (show (Ex.ex 2) ≠ .nm from nofun) (λi hi=>DW.rd (.k (Ae hu) <| .k (ofNat_lt hi) <| .k (Ae hu) <| .k (Ae hi) <| .k (Ae hu) <| .k (Ae hi) <| .k (eN (eq8 ((C u).2 i))) <| .e (nm1 (f:=Adf n C u) (Gp (by omega)))) (by kernel_rfl)) (DW.rd (.k (Ae hu) <| .k (F3 (C u).1) .l) (by kernel_rfl)) (by omega)
theorem r15 (hn:n <= 4611686018427387904) (hs:∀ i,i<n->(C i).1 <= 4611686018427387904):(Au (B15 0 (Go.Sy.askL AeR)) Ann 4611686018427387905 (T15 n C 0)).sem=some (.ex 0,⟨jsV 53 0 Ab [],[]⟩) :=
 B6 (S:=λi=>T15 n C (ofNat i)) (m:=n) (show (Ex.ex 0) ≠ .nm from nofun) (λi hi=>DW.rd (.k (ofNat_lt hi) <| .r 2 (Ae hi) <| .k (eN (eI (ofNat (C i).1))) <| .a (Amy hi (hs i hi)) <| .e (nm1 (f:=T15 n C) (Gp (by omega)))) (by kernel_rfl)) (DW.rd (.k (F3 n) .l) (by kernel_rfl)) (by omega)
end
def P15 (n:Nat) (C:Nat->Nat×(Nat->In8)) (m:Nat) (D:Nat->Nat×(Nat->In8)):Prop:=n <= 4611686018427387904∧(∀ i,i<n->(C i).1 <= 4611686018427387904)∧m=n∧∀ i,i<n->(D i).1=(C i).1∧∀ k,k<(D i).1->(D i).2 k=(C i).2 k
noncomputable def Vv:List V->A3
 | [u,v]=>apG (Zq AcF) u λn C=>apG (Zq AcF) v λm D=>.br (pB (P15 n C m D)) (.leaf (bV true,[])) .fail
 | _=>.fail
theorem AoX:An Tryz.prog Gl 15 Vv:=by
 refine Al A2 mixed Tryz.func15 (by kernel_rfl) (by kernel_rfl) λvs v h' h=>?_;unfold Vv at h;split at h
 ·rename_i u1 u2
  obtain ⟨n,C,a1,h⟩:=BB h;obtain ⟨m,D,a2,h⟩:=BB h;obtain ⟨hp,h⟩:=Ac h;cases Aa h;obtain ⟨hn,hs,rfl,hD⟩:=I5 hp;have hx:=AU BS AeR (G:=Gl);refine ⟨[.sl 1 m (λu=>.sl 8 (C u).1 (λk=>i8V ((C u).2 k))),.sl 1 m (λu=>.sl 8 (C u).1 (λk=>i8V ((C u).2 k)))],cxA Gl tb0 AeR,_,λS w cs hq=>?_,rfl,hx.1,hx.2,DW.ok (.k (eN (eI (ofNat m))) <| .a (r15 hn hs) <| .l) (by kernel_rfl),Ap.refl _⟩
  obtain ⟨c,l,rfl,q1,c2,l2,rfl,q2,q3⟩:=hq;exact ⟨c,_,rfl,a1 S w c q1,c2,_,rfl,R7 hD (a2 S w c2 q2),q3⟩
 ·cases h
section
variable (n:Nat) (f:Nat->Int) (t:Int)
def T42 (c:Int):St:=⟨jsV 46 0 Ab [(0,.sl 1 n (λk=>iV (f k))),(1,.sl 1 n (λk=>iV (f k))),(5,iV c)],[]⟩
def T24 (c:Int):St:=⟨jsV 19 0 Ab [(0,.sl 1 n (λ_=>iV (wr .i64 (AZ (-1000000) t)))),(1,iV t),(5,iV c)],[]⟩
end
def Anb:Lp:=⟨bmK 46 0 [0,1,5],0,bmK 46 0 [0,1],0,4611686018427387905⟩
def Anh:Lp:=⟨bmK 19 0 [0,1,5],0,bmK 19 0 [],0,4611686018427387905⟩
def AjO:List (Nat×Lp×List (Nat×(Nat->V))):=[(0,Anb,[])]
def AjQ:List (Nat×Lp×List (Nat×(Nat->V))):=[(0,Anh,[])]
noncomputable def B42 (L:LT):St->T (Ex×St):=λst=>A8 tab ⟨Ax tb0,L,Gl⟩ (As Tryz.f42 0) 0 st
noncomputable def B24 (L:LT):St->T (Ex×St):=λst=>A8 tab ⟨Ax tb0,L,Gl⟩ (As Tryz.f24 0) 0 st
theorem r42 {n:Nat} {f:Nat->Int} (hn:n <= 4611686018427387904):(Au (B42 (Go.Sy.askL AjO)) Anb 4611686018427387905 (T42 n f 0)).sem=some (.ex 0,⟨jsV 46 0 Ab [(0,.sl 1 n (λk=>iV (f k))),(1,.sl 1 n (λk=>iV (f k)))],[]⟩) :=
 B6 (S:=λi=>T42 n f (ofNat i)) (m:=n) (show (Ex.ex 0) ≠ .nm from nofun) (λi hi=>DW.rd (.r 6 (ofNat_lt hi) <| .r 2 (Ae hi) <| .k (ltI (f i)) <| .r 2 (Ae hi) <| .k (ltI (f i)) <| .e (nm1 (f:=T42 n f) (Gp (by omega)))) (by kernel_rfl)) (DW.rd (.r 5 (F3 n) <| .k eF <| .l) (by kernel_rfl)) (by omega)
theorem r24 {n:Nat} {t:Int} (hn:n <= 4611686018427387904):(Au (B24 (Go.Sy.askL AjQ)) Anh 4611686018427387905 (T24 n t 0)).sem=some (.ex 0,⟨jsV 19 0 Ab [],[]⟩) :=
 B6 (S:=λi=>T24 n t (ofNat i)) (m:=n) (show (Ex.ex 0) ≠ .nm from nofun) (λi hi=>DW.rd (.k (ofNat_lt hi) <| .k (Ae hi) <| .k (eN (eI (wr .i64 (AZ (-1000000) t)))) <| .e (nm1 (f:=T24 n t) (Gp (by omega)))) (by kernel_rfl)) (DW.rd (.k (F3 n) .l) (by kernel_rfl)) (by omega)
noncomputable def Zs (x:V):List V->A3
 | [u,v]=>apI u λn f=>apI v λm g=>.br (pB (n <= 4611686018427387904∧m=n∧∀ i,i<n->g i=f i)) (.leaf (x,[])) .fail
 | _=>.fail
theorem U3 {x v:V} {vs:List V} {h':List Blk} (h:(Zs x vs).sem=some (v,h')):∃ (n:Nat) (f:Nat->Int),n <= 4611686018427387904∧Bz vs [.sl 1 n λk=>iV (f k),.sl 1 n λk=>iV (f k)]∧v=x∧h'=[]:=by
 unfold Zs at h;split at h
 ·obtain ⟨n,f,a1,h⟩:=D2 h
  obtain ⟨m,g,a2,h⟩:=D2 h;obtain ⟨hp,h⟩:=Ac h;cases Aa h;obtain ⟨hn,rfl,hD⟩:=I5 hp;refine ⟨m,f,hn,λS w cs hq=>?_,rfl,rfl⟩;obtain ⟨c,l,rfl,q1,c2,l2,rfl,q2,q3⟩:=hq;exact ⟨c,_,rfl,a1 S w c q1,c2,_,rfl,W4 hD (a2 S w c2 q2),q3⟩
 ·cases h
theorem AoM:An Tryz.prog Gl 42 (Zs (iV 0)):=Al A2 mixed Tryz.func42 (by kernel_rfl) (by kernel_rfl) λvs v h' h=>by
 obtain ⟨n,f,hn,ha,rfl,rfl⟩:=U3 h;have hx:=AU BS AjO (G:=Gl);exact ⟨_,cxA Gl tb0 AjO,_,ha,rfl,hx.1,hx.2,DW.ok (.a (r42 (f:=f) hn) <| .r 2 (F3 n) <| .l) (by kernel_rfl),Ap.refl _⟩
noncomputable def tb16:A9:=(42,Zs (iV 0))::[]
theorem tb16_ok:Ao Tryz.prog Gl tb16:=.cons AoM .nil
theorem AoW:An Tryz.prog Gl 16 (Zs (bV true)):=Al A2 mixed Tryz.func16 (by kernel_rfl) (by kernel_rfl) λvs v h' h=>by
 obtain ⟨n,f,hn,ha,rfl,rfl⟩:=U3 h;have hx:=AU tb16_ok [] (G:=Gl);exact ⟨_,cxA Gl tb16 [],_,ha,rfl,hx.1,hx.2,DW.ok (.k (eL n) <| .k (eL n) <| .k (Gr (show n <= 4611686018427387904∧n=n∧∀ i,i<n->f i=f i from ⟨hn,rfl,λ_ _=>rfl⟩)) <| .l) (by kernel_rfl),Ap.refl _⟩
noncomputable def AcV:List V->A3
 | [u,.val (.int .i64 t)]=>apI u λn f=>.br (pB (n <= 4611686018427387904∧∀ i,i<n->f i=wr .i64 (AZ (-1000000) t))) (.leaf (bV true,[])) .fail
 | _=>.fail
theorem AoP:An Tryz.prog Gl 24 AcV:=Al A2 mixed Tryz.func24 (by kernel_rfl) (by kernel_rfl) λvs v h' h=>by
 unfold AcV at h;split at h
 ·rename_i u t
  obtain ⟨n,f,a1,h⟩:=D2 h;obtain ⟨hp,h⟩:=Ac h;cases Aa h;obtain ⟨hn,hD⟩:=I5 hp;have hx:=AU BS AjQ (G:=Gl);exact ⟨[.sl 1 n λ_=>iV (wr .i64 (AZ (-1000000) t)),iV t],cxA Gl tb0 AjQ,_,Aol (l:=[iV t]) λS w c hq=>W4 (g:=λ_=>wr .i64 (AZ (-1000000) t)) hD (a1 S w c hq),rfl,hx.1,hx.2,DW.ok (.a (r24 (t:=t) hn) <| .l) (by kernel_rfl),Ap.refl _⟩
 ·cases h
section
variable (n:Nat) (f:Nat->Ini5)
def T17 (c:Int):St:=⟨jsV 26 0 Ab [(0,.sl 5 n (λk=>i5V (f k))),(1,.sl 5 n (λk=>i5V (f k))),(5,iV c)],[]⟩
end
def Anm:Lp:=⟨bmK 26 0 [0,1,5],0,bmK 26 0 [],0,4611686018427387905⟩
def AjT:List (Nat×Lp×List (Nat×(Nat->V))):=[(0,Anm,[])]
noncomputable def B17 (L:LT):St->T (Ex×St):=λst=>A8 tab ⟨Ax tb0,L,Gl⟩ (As Tryz.f17 0) 0 st
theorem r17 {n:Nat} {f:Nat->Ini5} (hn:n <= 4611686018427387904):(Au (B17 (Go.Sy.askL AjT)) Anm 4611686018427387905 (T17 n f 0)).sem=some (.ex 0,⟨jsV 26 0 Ab [],[]⟩) :=
 B6 (S:=λi=>T17 n f (ofNat i)) (m:=n) (show (Ex.ex 0) ≠ .nm from nofun) (λi hi=>DW.rd (.k (ofNat_lt hi) <| .r 2 (Ae hi) <| .k (eN (eq5 (f i))) <| .e (nm1 (f:=T17 n f) (Gp (by omega)))) (by kernel_rfl)) (DW.rd (.k (F3 n) .l) (by kernel_rfl)) (by omega)
noncomputable def Vu:List V->A3
 | [u,v]=>apG Zr u λn f=>apG Zr v λm g=>.br (pB (n <= 4611686018427387904∧m=n∧∀ i,i<n->g i=f i)) (.leaf (bV true,[])) .fail
 | _=>.fail
theorem AoU:An Tryz.prog Gl 17 Vu:=by
 refine Al A2 mixed Tryz.func17 (by kernel_rfl) (by kernel_rfl) λvs v h' h=>?_;unfold Vu at h;split at h
 ·rename_i u1 u2
  obtain ⟨n,f,a1,h⟩:=BB h;obtain ⟨m,g,a2,h⟩:=BB h;obtain ⟨hp,h⟩:=Ac h;cases Aa h;obtain ⟨hn,rfl,hD⟩:=I5 hp;have hx:=AU BS AjT (G:=Gl);refine ⟨[Ez Zr m f,Ez Zr m f],cxA Gl tb0 AjT,_,λS w cs hq=>?_,rfl,hx.1,hx.2,DW.ok (.k (eN (eI (ofNat m))) <| .a (r17 (f:=f) hn) <| .l) (by kernel_rfl),Ap.refl _⟩
  obtain ⟨c,l,rfl,q1,c2,l2,rfl,q2,q3⟩:=hq;exact ⟨c,_,rfl,a1 S w c q1,c2,_,rfl,LF hD (a2 S w c2 q2),q3⟩
 ·cases h
end Go.Proofs.YtkbafjceglhjhaaGreatDoor.Er
namespace Go.Proofs.YtkbafjceglhjhaaGreatDoor.Er
open Go.Sy Go Go.Proofs.YtkbafjceglhjhaaGreatDoor.Ed Go.Proofs.YtkbafjceglhjhaaGreatDoor.Sh
open Int (ofNat)
set_option maxRecDepth 100000
set_option maxHeartbeats 1000000
section
variable (s:Sh7)
def T18 (q:Nat) (c:Int):St:=⟨jsV 146 0 Ab [(2,.ptr 0 0),(3,.ptr 1 0),(q,iV c)],[cl7 s,cl7 s]⟩
def Ade (u:Nat) (c:Int):St:=⟨jsV 146 0 Ab [(2,.ptr 0 0),(3,.ptr 1 0),(7,nV u),(8,iV c)],[cl7 s,cl7 s]⟩
def x18:St:=⟨jsV 146 0 Ab [(2,.ptr 0 0),(3,.ptr 1 0)],[cl7 s,cl7 s]⟩
end
def lp18:Lp:=⟨bmK 146 0 [2,3,5],2,bmK 146 0 [2,3],2,4611686018427387905⟩
def Abt:Lp:=⟨bmK 146 0 [2,3,6],2,bmK 146 0 [2,3],2,4611686018427387905⟩
def Abs:Lp:=⟨bmK 146 0 [2,3,7],2,bmK 146 0 [],0,4611686018427387905⟩
def Abr:Lp:=⟨bmK 146 0 [2,3,7,8],2,bmK 146 0 [2,3,7],2,4611686018427387905⟩
def YM:List (Nat×Lp×List (Nat×(Nat->V))):=[(0,lp18,[]),(2,Abt,[]),(4,Abs,[]),(6,Abr,[])]
noncomputable def tb18:A9:=(43,NC)::[]
theorem tb18_ok:Ao Tryz.prog Gl tb18:=.cons Ed.p36 .nil
noncomputable def B18 (id:Nat) (L:LT):St->T (Ex×St):=λst=>A8 tab ⟨Ax tb18,L,Gl⟩ (As Tryz.f18 id) id st
section
variable {s:Sh7}
theorem r18 (hn:s.nx <= 4611686018427387904):(Au (B18 0 (Go.Sy.askL YM)) lp18 4611686018427387905 (T18 s 5 0)).sem=some (.ex 0,x18 s) :=
 B6 (S:=λi=>T18 s 5 (ofNat i)) (m:=s.nx) (show (Ex.ex 0) ≠ .nm from nofun) (λi hi=>DW.rd (.k (ofNat_lt hi) <| .r 2 (Ae hi) <| .k (eN (eA (eI (s.X i).th) (eA (eI (s.X i).pl) (eA (eI (s.X i).dir) (eA (eI (s.X i).loc) (eA (eI (s.X i).val) eT)))))) <| .e (nm1 (f:=T18 s 5) (Gp (by omega)))) (by kernel_rfl)) (DW.rd (.k (F3 s.nx) .l) (by kernel_rfl)) (by omega)
theorem Amx (hn:s.nr <= 4611686018427387904):(Au (B18 2 (Go.Sy.askL YM)) Abt 4611686018427387905 (T18 s 6 0)).sem=some (.ex 2,x18 s) :=
 B6 (S:=λi=>T18 s 6 (ofNat i)) (m:=s.nr) (show (Ex.ex 2) ≠ .nm from nofun) (λi hi=>DW.rd (.k (ofNat_lt hi) <| .r 2 (Ae hi) <| .k (eN (eI (s.R i))) <| .e (nm1 (f:=T18 s 6) (Gp (by omega)))) (by kernel_rfl)) (DW.rd (.k (F3 s.nr) .l) (by kernel_rfl)) (by omega)
theorem Amv {u:Nat} (hu:u<s.nc) (hn:(s.C u).1 <= 4611686018427387904):(Au (B18 6 (Go.Sy.askL YM)) Abr 4611686018427387905 (Ade s u 0)).sem=some (.ex 6,T18 s 7 (ofNat u)) :=
 B6 (S:=λi=>Ade s u (ofNat i)) (m:=(s.C u).1) (show (Ex.ex 6) ≠ .nm from nofun) (λi hi=>DW.rd (.k (Ae hu) <| .k (ofNat_lt hi) <| .k (Ae hu) <| .k (Ae hi) <| .k (Ae hu) <| .k (Ae hi) <| .k (eN (eI ((s.C u).2 i))) <| .e (nm1 (f:=Ade s u) (Gp (by omega)))) (by kernel_rfl)) (DW.rd (.k (Ae hu) <| .k (F3 (s.C u).1) .l) (by kernel_rfl)) (by omega)
theorem Amw (hn:s.nc <= 4611686018427387904) (hs:∀ i,i<s.nc->(s.C i).1 <= 4611686018427387904):(Au (B18 4 (Go.Sy.askL YM)) Abs 4611686018427387905 (T18 s 7 0)).sem=some (.ex 4,⟨jsV 146 0 Ab [],[]⟩) :=
 B6 (S:=λi=>T18 s 7 (ofNat i)) (m:=s.nc) (show (Ex.ex 4) ≠ .nm from nofun) (λi hi=>DW.rd (.k (ofNat_lt hi) <| .r 2 (Ae hi) <| .k (eN (eI (ofNat (s.C i).1))) <| .a (Amv hi (hs i hi)) <| .e (nm1 (f:=T18 s 7) (Gp (by omega)))) (by kernel_rfl)) (DW.rd (.k (F3 s.nc) .l) (by kernel_rfl)) (by omega)
end
structure P18 (s z:Sh7):Prop where
 sm:Fu s=true
 ar:z.arch=s.arch
 tt:z.tt=s.tt
 kk:z.kk=s.kk
 ne:z.ne=s.ne
 E:∀ i,i<s.ne->z.E i=s.E i
 nx:z.nx=s.nx
 X:∀ i,i<s.nx->z.X i=s.X i
 nr:z.nr=s.nr
 R:∀ i,i<s.nr->z.R i=s.R i
 nc:z.nc=s.nc
 C:∀ i,i<s.nc->(z.C i).1=(s.C i).1∧∀ k,k<(z.C i).1->(z.C i).2 k=(s.C i).2 k
theorem P18.self {s:Sh7} (h:Fu s=true):P18 s s:=⟨h,rfl,rfl,rfl,rfl,λ_ _=>rfl,rfl,λ_ _=>rfl,rfl,λ_ _=>rfl,rfl,λ_ _=>⟨rfl,λ_ _=>rfl⟩⟩
theorem Aee {s z:Sh7} (h:P18 s z) {S:Nat->Prop} {w:World} {u:Value} (hv:VR S w (EY z) noK u):VR S w (EY s) noK u:=by
 obtain ⟨ca,rfl,a1,l1,rfl,q1,a2,l2,rfl,q2,a3,l3,rfl,q3,a4,l4,rfl,q4,a5,l5,rfl,q5,a6,l6,rfl,q6,a7,l7,rfl,q7,q8⟩:=hv;refine ⟨_,rfl,a1,_,rfl,?_,a2,_,rfl,?_,a3,_,rfl,?_,a4,_,rfl,?_,a5,_,rfl,?_,a6,_,rfl,?_,a7,_,rfl,?_,q8⟩
 ·rw [<- h.ar]; exact q1
 ·rw [<- h.ne]; exact LF (λi hi=>h.E i (by rw [<- h.ne]; exact hi)) q2
 ·rw [<- h.nx]; exact LF (λi hi=>h.X i (by rw [<- h.nx]; exact hi)) q3
 ·rw [<- h.tt]; exact q4
 ·rw [<- h.kk]; exact q5
 ·rw [<- h.nr]; exact LF (λi hi=>h.R i (by rw [<- h.nr]; exact hi)) q6
 ·rw [<- h.nc]; exact R7 (c:=PC) (λi hi=>h.C i (by rw [<- h.nc]; exact hi)) q7
noncomputable def Vt:List V->A3
 | [u,v]=>apS u λs=>apS v λz=>.br (pB (P18 s z)) (.leaf (bV true,[])) .fail
 | _=>.fail
theorem AoT:An Tryz.prog Gl 18 Vt:=Al A2 mixed Tryz.func18 (by kernel_rfl) (by kernel_rfl) λvs v h' h=>by
 unfold Vt at h;split at h
 ·obtain ⟨s,a1,h⟩:=apS_some h
  obtain ⟨z,a2,h⟩:=apS_some h;obtain ⟨hp,h⟩:=Ac h;cases Aa h;have hp:=I5 hp;have hx:=AU tb18_ok YM (G:=Gl);have hs:=hp.sm;unfold Fu at hs;obtain ⟨h0,hs⟩:=AM hs;obtain ⟨hX,hs⟩:=AM hs;obtain ⟨hR,hs⟩:=AM hs;obtain ⟨hC,hs⟩:=AM hs;have hX:=BU hX;have hR:=BU hR;have hC:=BU hC;have hs:=λi hi=>BU (AE.1 hs i hi);refine ⟨[EY s,EY s],cxA Gl tb18 YM,_,λS w cs hq=>?_,rfl,hx.1,hx.2,DW.ok (.r 6 (eN (eI s.arch)) <| .r 6 (eN (eI s.tt)) <| .r 5 (eN (eI s.kk)) <| .r 2 (eL s.ne) <| .k h0 <| .r 2 (eN (eI s.kk)) <| .r 8 (eN (Vr s.ne s.E)) <| .r 8 (eN (eI (ofNat s.nx))) <| .r 8 (eN (eI (ofNat s.nr))) <| .k (eN (eI (ofNat s.nc))) <| .a (r18 hX) <| .a (Amx hR) <| .a (Amw hC hs) <| .l) (by kernel_rfl),Ap.refl _⟩
  obtain ⟨c,l,rfl,q1,c2,l2,rfl,q2,q3⟩:=hq;exact ⟨c,_,rfl,a1 S w c q1,c2,_,rfl,Aee hp (a2 S w c2 q2),q3⟩
 ·cases h
def tL (s:Sh7) (i k:Nat):Nat:=bif Nat.blt k i then (s.C k).1 else 0
def tM (s:Sh7) (i k:Nat):Nat->V:=bif Nat.blt k i then Bo 0 (s.C k).1 Ab (λq=>iV ((s.C k).2 q)) else λ_=>.und
section
variable (s:Sh7)
def T8 (c:Int) (n:Nat) (get:Nat->V) (live:Nat->Bool) (len:Nat->Nat) (mem:Nat->Nat->V):St:=⟨jsV 52 0 Ab [(1,.ptr 0 0),(2,.ptr 1 0),(3,.ptr 2 0),(4,iV c)],[cl7 s,.cells [iV 0,.nilS,.nilS,iV 0,iV 0,.nilS,.nilS],.cells [iV s.arch,.ref 3,.ref 4,iV s.tt,iV s.kk,.ref 5,.jref 6],.row 76 6 (AD 0 s.ne) (Bo 0 s.ne Ab (λi=>eV (s.E i))),.row 74 5 (AD 0 s.nx) (Bo 0 s.nx Ab (λi=>evV (s.X i))),.row 3 1 (AD 0 s.nr) (Bo 0 s.nr Ab (λi=>iV (s.R i))),.jag ⟨24,1,n,get,0,3,1,live,len,mem,none⟩]⟩
def S8 (i:Nat):St:=T8 s (ofNat i) i Ab (λ_=>true) (tL s i) (tM s i)
def x8:Ex×St:=(.ex 0,⟨jsV 52 0 Ab [(2,.ptr 1 0),(3,.ptr 2 0)],[cl7 s,.cells [iV 0,.nilS,.nilS,iV 0,iV 0,.nilS,.nilS],.cells [iV s.arch,.ref 3,.ref 4,iV s.tt,iV s.kk,.ref 5,.jref 6],.row 76 6 (AD 0 s.ne) (Bo 0 s.ne Ab (λi=>eV (s.E i))),.row 74 5 (AD 0 s.nx) (Bo 0 s.nx Ab (λi=>evV (s.X i))),.row 3 1 (AD 0 s.nr) (Bo 0 s.nr Ab (λi=>iV (s.R i))),.jag ⟨24,1,s.nc,λ_=>.und,0,3,1,λ_=>true,tL s s.nc,tM s s.nc,none⟩]⟩)
def twV:V:=.agg [iV s.arch,.ref 0,.ref 1,iV s.tt,iV s.kk,.ref 2,.jref 3]
def twH:List Blk:=[.row 76 6 s.ne (λi=>eV (s.E i)),.row 74 5 s.nx (λi=>evV (s.X i)),.row 3 1 s.nr (λi=>iV (s.R i)),.jag ⟨24,1,s.nc,λ_=>.und,0,3,1,λ_=>true,λu=>(s.C u).1,λu k=>iV ((s.C u).2 k),none⟩]
def twS:Bool:=Aj (Bp 0 s.ne 40) (Aj (Bp 0 s.nx 40) (Aj (Bp 0 s.nr 8) (Aj (Bp 0 s.nc 24) (Bi s.nc λi=>Bp 0 (s.C i).1 8))))
def twC:A3:=.br (twS s) (.leaf (twV s,twH s)) .fail
end
theorem Nb {n i:Nat} {gx g:Nat->V} (h:i<n):Bo 0 n gx g i=g i:=by
 unfold Bo;split
 ·have:i=0:=by omega
  subst this;rw [Bu];rfl
 ·rw [FQ]
  rw [show Nat.blt i 0=false from by
   cases hb:Nat.blt i 0 with
   | false=>rfl
   | true=>have:=Nat.le_of_ble_eq_true hb; omega]
  rfl
theorem Aa9 (b:Nat):AG b (λ_=>V.und) .und=λ_=>.und:=by
 funext k;rw [Bu];cases Nat.beq k b <;> rfl
theorem AdY (s:Sh7) (i:Nat):Db (tL s i) i (AD 0 (s.C i).1)=tL s (i+1):=by
 funext k;unfold Db tL;rw [Il,BI,show AD 0 (s.C i).1=(s.C i).1 from Nat.zero_add _];cases hk:Nat.beq k i with
 | true =>rw [Nat.eq_of_beq_eq_true hk,show Nat.blt i (i+1)=true from Nat.ble_eq_true_of_le (Nat.le_refl _)];rfl
 | false =>
  have:=Nat.ne_of_beq_eq_false hk;rw [show Nat.blt k (i+1)=Nat.blt k i from by
   cases hb:Nat.blt k i with
   | true=>have:=Nat.le_of_ble_eq_true hb; exact Nat.ble_eq_true_of_le (by omega)
   | false =>
    cases hc:Nat.blt k (i+1) with
    | false=>rfl
    | true =>have h1:=Nat.le_of_ble_eq_true hc;have h2:Nat.blt k i=true:=Nat.ble_eq_true_of_le (by omega);rw [hb] at h2;cases h2]
  rfl
theorem AdX (s:Sh7) (i:Nat):CN (tM s i) i (Bo 0 (s.C i).1 Ab (λq=>iV ((s.C i).2 q)))=tM s (i+1):=by
 funext k j;unfold CN tM;rw [ER,BI];cases hk:Nat.beq k i with
 | true =>rw [Nat.eq_of_beq_eq_true hk,show Nat.blt i (i+1)=true from Nat.ble_eq_true_of_le (Nat.le_refl _)];rfl
 | false =>
  have:=Nat.ne_of_beq_eq_false hk;rw [show Nat.blt k (i+1)=Nat.blt k i from by
   cases hb:Nat.blt k i with
   | true=>have:=Nat.le_of_ble_eq_true hb; exact Nat.ble_eq_true_of_le (by omega)
   | false =>
    cases hc:Nat.blt k (i+1) with
    | false=>rfl
    | true =>have h1:=Nat.le_of_ble_eq_true hc;have h2:Nat.blt k i=true:=Nat.ble_eq_true_of_le (by omega);rw [hb] at h2;cases h2]
  rfl
def lp8:Lp:=⟨bmK 52 0 [1,2,3,4],7,bmK 52 0 [2,3],7,4611686018427387905⟩
def ls8:List (Nat×Lp×List (Nat×(Nat->V))):=[(0,lp8,[])]
noncomputable def B8 (L:LT):St->T (Ex×St):=λst=>A8 tab ⟨Ax tb0,L,Gl⟩ (As Tryz.f8 0) 0 st
theorem ap8 {n i:Nat} (hn:Bp 0 n 24=true) (hi:i<n):Bp i 1 24=true:=by
 have:=of_decide_eq_true hn;exact decide_eq_true (by omega)
theorem lf8 (s:Sh7) {i:Nat} (hi:i<s.nc) (hn:Bp 0 s.nc 24=true):(Ex.nm,T8 s (wr .i64 (Ah (ofNat i) 1)) (AD i 1) (AG i Ab .und) (Cs (λ_=>true) i true) (Db (tL s i) i (AD 0 (s.C i).1)) (CN (tM s i) i (Bo 0 (s.C i).1 Ab (λq=>iV ((s.C i).2 q)))))=(Ex.nm,S8 s (i+1)):=by
 have hn:=of_decide_eq_true hn;unfold S8;rw [Gp (by omega),Aa9,AdY,AdX,show Cs (λ_=>true) i true=λ_=>true from by
  funext k;unfold Cs;rw [Il];cases BI k i <;> rfl]
 rfl
theorem r8 (s:Sh7) (hn:Bp 0 s.nc 24=true) (hc:∀ i,i<s.nc->Bp 0 (s.C i).1 8=true):(Au (B8 (Go.Sy.askL ls8)) lp8 4611686018427387905 (S8 s 0)).sem=some (x8 s) :=
 B6 (S:=S8 s) (m:=s.nc) (show (Ex.ex 0) ≠ .nm from nofun) (λi hi=>DW.rd (.k (ofNat_lt hi) <| .k (Ae hi) <| .k (hc i hi) <| .k eT <| .k (ap8 hn hi) <| .e (lf8 s hi hn)) (by kernel_rfl)) (DW.rd (.k (F3 s.nc) .l) (by kernel_rfl)) (by have:=of_decide_eq_true hn; omega)
theorem p8d:An Tryz.prog Gl 8 (shT twC):=V6 Tryz.func8 (by kernel_rfl) (by kernel_rfl) (Γ:=λ_=>cxA Gl tb0 ls8) (λ_=>rfl) (λ_=>AU BS ls8) λs v h' h=>by
 obtain ⟨hp,h⟩:=Ac h;cases Aa h;unfold twS at hp;obtain ⟨h1,hp⟩:=AM hp;obtain ⟨h2,hp⟩:=AM hp;obtain ⟨h3,hp⟩:=AM hp;obtain ⟨h4,hp⟩:=AM hp;have hc:=AE.1 hp;refine ⟨[.row 76 6 s.ne (Bo 0 s.ne Ab (λi=>eV (s.E i))),.row 74 5 s.nx (Bo 0 s.nx Ab (λi=>evV (s.X i))),.row 3 1 s.nr (Bo 0 s.nr Ab (λi=>iV (s.R i))),.jag ⟨24,1,s.nc,λ_=>.und,0,3,1,λ_=>true,tL s s.nc,tM s s.nc,none⟩],
  DW.ok (.k h1 <| .k h2 <| .k h3 <| .a (r8 s h4 hc) <| .e (show (twV s,[.row 76 6 (AD 0 s.ne) (Bo 0 s.ne Ab (λi=>eV (s.E i))),.row 74 5 (AD 0 s.nx) (Bo 0 s.nx Ab (λi=>evV (s.X i))),.row 3 1 (AD 0 s.nr) (Bo 0 s.nr Ab (λi=>iV (s.R i))),.jag ⟨24,1,s.nc,λ_=>.und,0,3,1,λ_=>true,tL s s.nc,tM s s.nc,none⟩])=(twV s,_) from by
   unfold AD;rw [Nat.zero_add,Nat.zero_add,Nat.zero_add])) (by kernel_rfl),?_⟩
 refine .cons (λj hj=>(Nb (g:=λi=>eV (s.E i)) hj).symm) <| .cons (λj hj=>(Nb (g:=λi=>evV (s.X i)) hj).symm) <| .cons (λj hj=>(Nb (g:=λi=>iV (s.R i)) hj).symm) <| .consB ?_ (Ap.refl [])
 have hlt:∀ k,k<s.nc->Nat.blt k s.nc=true:=λk hk=>Nat.ble_eq_true_of_le hk;refine .jag (λ_ _=>.inl rfl) (λ_ _=>rfl) (λk hk=>?_) λk hk q hq=>?_
 ·show (s.C k).1=tL s s.nc k
  unfold tL;rw [hlt k hk];rfl
 ·replace hq:q<tL s s.nc k:=hq
  unfold tL at hq;rw [hlt k hk] at hq;show iV ((s.C k).2 q)=tM s s.nc k q;unfold tM;rw [hlt k hk];exact (Nb (g:=λq=>iV ((s.C k).2 q)) (show q<(s.C k).1 from hq)).symm
section
variable (n:Nat) (g:Nat->V) (t:Int)
def G21:Nat->Nat->V
 | 0=>g
 | i+1=>AG (n+i) (G21 i) (iV (wr .i64 (AZ (-2000000) t)))
def T21 (i:Nat):St:=⟨jsV 14 0 Ab [(0,.ref 0),(1,iV t),(4,nV i)],[.xrow true 3 1 (n+i) (G21 n g t i)]⟩
def x21:Ex×St:=(.ex 0,⟨jsV 14 0 Ab [],[.xrow true 3 1 (n+20) (G21 n g t 20)]⟩)
def T22 (i:Nat):St:=⟨jsV 19 0 Ab [(0,.ref 0),(1,iV t),(4,.ref 1),(5,nV i)],[.xrow true 3 1 n g,.row 3 1 80 (λk=>iV (bif Nat.blt k i then wr .i64 (AZ (-3000000) t) else 0))]⟩
def x22:Ex×St:=(.ex 0,⟨jsV 19 0 Ab [(0,.ref 0),(4,.ref 1)],[.xrow true 3 1 n g,.row 3 1 80 (λk=>iV (bif Nat.blt k 80 then wr .i64 (AZ (-3000000) t) else 0))]⟩)
end
def Ank:Lp:=⟨bmK 14 0 [0,1,4],1,bmK 14 0 [],1,4611686018427387905⟩
def Anj:Lp:=⟨bmK 19 0 [0,1,4,5],2,bmK 19 0 [0,4],2,4611686018427387905⟩
def AjS:List (Nat×Lp×List (Nat×(Nat->V))):=[(0,Ank,[])]
def AjR:List (Nat×Lp×List (Nat×(Nat->V))):=[(0,Anj,[])]
noncomputable def B21 (L:LT):St->T (Ex×St):=λst=>A8 tab ⟨Ax tb0,L,Gl⟩ (As Tryz.f21 0) 0 st
noncomputable def B22 (L:LT):St->T (Ex×St):=λst=>A8 tab ⟨Ax tb0,L,Gl⟩ (As Tryz.f22 0) 0 st
theorem ApK {n i:Nat} (ha:Bp n 80 8=true) (hi:i<20):Bp (n+i) 1 8=true:=by
 have:=of_decide_eq_true ha;exact decide_eq_true (by omega)
theorem Apu (n:Nat) (g:Nat->V) (t:Int) {i:Nat} (hi:i<80):(Ex.nm,(⟨jsV 19 0 Ab [(0,.ref 0),(1,iV t),(4,.ref 1),(5,iV (wr .i64 (Ah (ofNat i) 1)))],[.xrow true 3 1 n g,.row 3 1 80 (By (λk=>iV (bif Nat.blt k i then wr .i64 (AZ (-3000000) t) else 0)) i (iV (wr .i64 (AZ (-3000000) t))))]⟩:St))=(Ex.nm,T22 n g t (i+1)):=by
 unfold T22;rw [Gp (by omega),show By (λk=>iV (bif Nat.blt k i then wr .i64 (AZ (-3000000) t) else 0)) i (iV (wr .i64 (AZ (-3000000) t)))=λk=>iV (bif Nat.blt k (i+1) then wr .i64 (AZ (-3000000) t) else 0) from by
  funext k;rw [Dk];cases hk:Nat.beq k i with
  | true =>rw [Nat.eq_of_beq_eq_true hk,show Nat.blt i (i+1)=true from Nat.ble_eq_true_of_le (Nat.le_refl _)];rfl
  | false =>
   have:=Nat.ne_of_beq_eq_false hk;rw [show Nat.blt k (i+1)=Nat.blt k i from by
    cases hb:Nat.blt k i with
    | true=>have:=Nat.le_of_ble_eq_true hb; exact Nat.ble_eq_true_of_le (by omega)
    | false =>
     cases hc:Nat.blt k (i+1) with
     | false=>rfl
     | true =>have h1:=Nat.le_of_ble_eq_true hc;have h2:Nat.blt k i=true:=Nat.ble_eq_true_of_le (by omega);rw [hb] at h2;cases h2]
   rfl]
theorem Apv (n:Nat) (g:Nat->V) (t:Int) {i:Nat} (hi:i<20):(Ex.nm,(⟨jsV 14 0 Ab [(0,.ref 0),(1,iV t),(4,iV (wr .i64 (Ah (ofNat i) 1)))],[.xrow true 3 1 (AD (n+i) 1) (AG (n+i) (G21 n g t i) (iV (wr .i64 (AZ (-2000000) t))))]⟩:St))=(Ex.nm,T21 n g t (i+1)):=by
 unfold T21;rw [Gp (by omega)];rfl
theorem r21 {n:Nat} (g:Nat->V) (t:Int) (ha:Bp n 80 8=true):(Au (B21 (Go.Sy.askL AjS)) Ank 4611686018427387905 (T21 n g t 0)).sem=some (x21 n g t) :=
 B6 (S:=T21 n g t) (m:=20) (show (Ex.ex 0) ≠ .nm from nofun) (λi hi=>DW.rd (.k (ofNat_lt hi) <| .k (ApK ha hi) <| .e (Apv n g t hi)) (by kernel_rfl)) (DW.rd (.k (show ilt (ofNat 20) 20=false from rfl) .l) (by kernel_rfl)) (by omega)
theorem r22 (n:Nat) (g:Nat->V) (t:Int):(Au (B22 (Go.Sy.askL AjR)) Anj 4611686018427387905 (T22 n g t 0)).sem=some (x22 n g t) :=
 B6 (S:=T22 n g t) (m:=80) (show (Ex.ex 0) ≠ .nm from nofun) (λi hi=>DW.rd (.k (ofNat_lt (n:=80) hi) <| .k (Ae (n:=80) hi) <| .k (decide_eq_true hi) <| .e (Apu n g t hi)) (by kernel_rfl)) (DW.rd (.k (show ilt (ofNat 80) 80=false from rfl) .l) (by kernel_rfl)) (by omega)
theorem m21:Px Tryz.prog Gl 21 (Q1 3 1 Q2):=Ud A2 mixed Tryz.func21 (by kernel_rfl) (by kernel_rfl) λn g vs u h=>by
 unfold Q2 at h;split at h
 ·rename_i t
  obtain ⟨ha,_⟩:=Ac h;have hx:=AU BS AjS (G:=Gl);exact ⟨rfl,cxA Gl tb0 AjS,rfl,hx.1,hx.2,[.xrow true 3 1 (n+20) (G21 n g t 20)],DW.ok (.a (r21 g t ha) <| .l) (by kernel_rfl)⟩
 ·cases h
theorem m22:Px Tryz.prog Gl 22 (Q1 3 1 Q2):=Ud A2 mixed Tryz.func22 (by kernel_rfl) (by kernel_rfl) λn g vs u h=>by
 unfold Q2 at h;split at h
 ·rename_i t
  obtain ⟨ha,_⟩:=Ac h;have hx:=AU BS AjR (G:=Gl);exact ⟨rfl,cxA Gl tb0 AjR,rfl,hx.1,hx.2,[.xrow true 3 1 (AD n 80) (Bo n 80 g (λk=>iV (bif Nat.blt k 80 then wr .i64 (AZ (-3000000) t) else 0))),.row 3 1 80 (λk=>iV (bif Nat.blt k 80 then wr .i64 (AZ (-3000000) t) else 0))],DW.ok (.k (show EA 8 80 80=true from rfl) <| .a (r22 n g t) <| .k ha <| .l) (by kernel_rfl)⟩
 ·cases h
def spI:Ini5:=⟨-9,0,[115,112,111,105,108,116],[],0⟩
def spC (u:Nat):In8:=⟨wr .i64 (AZ (-5) (ofNat u)),0,0,0,0,[],[115,112,111,105,108,116],0⟩
structure A23 where
 a0:Int
 a1:List UInt8
 a2:List UInt8
 a3:Int
 a4:Int
 a5:Int
 a6:Int
 a7:List UInt8
 a8:Int
 ks:Nat
 kn:Nat
 kg:Nat->V
def tsV (a:A23) (iv cv:V):V:=.agg [iV a.a0,.str a.a1,.str a.a2,iv,cv,iV a.a3,iV a.a4,iV a.a5,iV a.a6,.str a.a7,iV a.a8,.sl a.ks a.kn a.kg]
section
variable (a:A23) (m n:Nat) (ln:Nat->Nat)
def c23:Blk:=.cells [iV a.a0,.str a.a1,.str a.a2,.sl 5 m (λ_=>i5V spI),.sl 1 n (λu=>.sl 8 (ln u) (λ_=>i8V (spC u))),iV a.a3,iV a.a4,iV a.a5,iV a.a6,.str a.a7,iV a.a8,.sl a.ks a.kn a.kg]
def Adc (u:Nat) (c:Int):St:=⟨jsV 49 0 Ab [(1,.ptr 0 0),(3,nV u),(4,iV c)],[c23 a m n ln]⟩
def T23 (c:Int):St:=⟨jsV 49 0 Ab [(1,.ptr 0 0),(3,iV c)],[c23 a m n ln]⟩
def Adb (c:Int):St:=⟨jsV 49 0 Ab [(1,.ptr 0 0),(5,iV c)],[c23 a m n ln]⟩
end
def Abn:Lp:=⟨bmK 49 0 [1,3,4],1,bmK 49 0 [1,3],1,4611686018427387905⟩
def Ani:Lp:=⟨bmK 49 0 [1,3],1,bmK 49 0 [1],1,4611686018427387905⟩
def Abm:Lp:=⟨bmK 49 0 [1,5],1,bmK 49 0 [],0,4611686018427387905⟩
def Abb:List (Nat×Lp×List (Nat×(Nat->V))):=[(0,Ani,[]),(2,Abn,[]),(4,Abm,[])]
noncomputable def B23 (id:Nat) (L:LT):St->T (Ex×St):=λst=>A8 tab ⟨Ax tb0,L,Gl⟩ (As Tryz.f23 id) id st
section
variable (a:A23) (m:Nat) {n:Nat} {ln:Nat->Nat}
theorem Amq {u:Nat} (hu:u<n) (hn:ln u <= 4611686018427387904):(Au (B23 2 (Go.Sy.askL Abb)) Abn 4611686018427387905 (Adc a m n ln u 0)).sem=some (.ex 2,T23 a m n ln (ofNat u)) :=
 B6 (S:=λi=>Adc a m n ln u (ofNat i)) (m:=ln u) (show (Ex.ex 2) ≠ .nm from nofun) (λi hi=>DW.rd (.k (Ae hu) <| .k (ofNat_lt hi) <| .k (Ae hu) <| .k (Ae hi) <| .k (eN (eq8 (spC u))) <| .e (nm1 (f:=Adc a m n ln u) (Gp (by omega)))) (by kernel_rfl)) (DW.rd (.k (Ae hu) <| .k (F3 (ln u)) .l) (by kernel_rfl)) (by omega)
theorem r23 (hn:n <= 4611686018427387904) (hs:∀ i,i<n->ln i <= 4611686018427387904):(Au (B23 0 (Go.Sy.askL Abb)) Ani 4611686018427387905 (T23 a m n ln 0)).sem=some (.ex 0,⟨jsV 49 0 Ab [(1,.ptr 0 0)],[c23 a m n ln]⟩) :=
 B6 (S:=λi=>T23 a m n ln (ofNat i)) (m:=n) (show (Ex.ex 0) ≠ .nm from nofun) (λi hi=>DW.rd (.k (ofNat_lt hi) <| .a (Amq a m hi (hs i hi)) <| .e (nm1 (f:=T23 a m n ln) (Gp (by omega)))) (by kernel_rfl)) (DW.rd (.k (F3 n) .l) (by kernel_rfl)) (by omega)
variable (n) (ln) {m}
theorem Amp (hm:m <= 4611686018427387904):(Au (B23 4 (Go.Sy.askL Abb)) Abm 4611686018427387905 (Adb a m n ln 0)).sem=some (.ex 4,⟨jsV 49 0 Ab [],[]⟩) :=
 B6 (S:=λi=>Adb a m n ln (ofNat i)) (m:=m) (show (Ex.ex 4) ≠ .nm from nofun) (λi hi=>DW.rd (.k (ofNat_lt hi) <| .k (Ae hi) <| .k (eN (eq5 spI)) <| .e (nm1 (f:=Adb a m n ln) (Gp (by omega)))) (by kernel_rfl)) (DW.rd (.k (F3 m) .l) (by kernel_rfl)) (by omega)
end
noncomputable def AcR:List V->A3
 | [.agg [.val (.int .i64 a0),.str a1,.str a2,iv,cv,.val (.int .i64 a3),.val (.int .i64 a4),.val (.int .i64 a5),.val (.int .i64 a6),.str a7,.val (.int .i64 a8),.sl ks kn kg]]=>apG Zr iv λm f=>apG (Zq AcF) cv λn C =>
  .br (pB (m <= 4611686018427387904∧n <= 4611686018427387904∧(∀ i,i<m->f i=spI)∧∀ i,i<n->(C i).1 <= 4611686018427387904∧∀ k,k<(C i).1->(C i).2 k=spC i)) (.leaf (bV true,[])) .fail
 | _=>.fail
theorem AoQ:An Tryz.prog Gl 23 AcR:=Al A2 mixed Tryz.func23 (by kernel_rfl) (by kernel_rfl) λvs v h' h=>by
 unfold AcR at h;split at h
 ·rename_i a0 a1 a2 iv cv a3 a4 a5 a6 a7 a8 ks kn kg
  obtain ⟨m,f,e1,h⟩:=BB h;obtain ⟨n,C,e2,h⟩:=BB h;obtain ⟨hp,h⟩:=Ac h;cases Aa h;obtain ⟨hm,hn,hf,hC⟩:=I5 hp;have hx:=AU BS Abb (G:=Gl);refine ⟨[tsV ⟨a0,a1,a2,a3,a4,a5,a6,a7,a8,ks,kn,kg⟩ (.sl 5 m (λ_=>i5V spI)) (.sl 1 n (λu=>.sl 8 (C u).1 (λ_=>i8V (spC u))))],cxA Gl tb0 Abb,_,λS w cs hq=>?_,rfl,hx.1,hx.2,
   DW.ok (.a (r23 ⟨a0,a1,a2,a3,a4,a5,a6,a7,a8,ks,kn,kg⟩ m (ln:=λu=>(C u).1) hn λi hi=>(hC i hi).1) <| .a (Amp ⟨a0,a1,a2,a3,a4,a5,a6,a7,a8,ks,kn,kg⟩ n (λu=>(C u).1) hm) <| .l) (by kernel_rfl),Ap.refl _⟩
  obtain ⟨c,l,rfl,⟨ca,rfl,c0,l0,rfl,q0,c1,l1,rfl,q1,c2,l2,rfl,q2,c3,l3,rfl,q3,c4,l4,rfl,q4,q5⟩,q6⟩:=hq;exact ⟨_,l,rfl,⟨_,rfl,c0,_,rfl,q0,c1,_,rfl,q1,c2,_,rfl,q2,c3,_,rfl,LF (c:=Zr) hf (e1 S w c3 q3),c4,_,rfl,R7 (c:=AcF) (f:=C) (g:=λu=>((C u).1,λ_=>spC u)) (λi hi=>⟨rfl,λk hk=>(hC i hi).2 k hk⟩) (e2 S w c4 q4),q5⟩,q6⟩
 ·cases h
end Go.Proofs.YtkbafjceglhjhaaGreatDoor.Er
