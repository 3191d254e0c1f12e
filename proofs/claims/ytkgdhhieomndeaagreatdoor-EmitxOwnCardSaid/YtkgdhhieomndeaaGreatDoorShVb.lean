/-
  Layer 11: the code and the registers of a shape (functions 74, 42, 45), the shape of a cycle (41). No conditions.
-/
import Derived.Test.YtkgdhhieomndeaaGreatDoorShV
import Derived.Test.YtkgdhhieomndeaaGreatDoorShS
namespace Go.Proofs.YtkgdhhieomndeaaGreatDoor.Sh
open Go.Sy Ed
set_option maxHeartbeats 1000000
set_option maxRecDepth 4000
def B1 (a:Int) (n:Nat) (g:Nat->E6) (m:Nat) (x:Nat->Ev5) (t k:Int) (p:Nat) (r:Nat->Int) (q:Nat) (ln:Nat->Nat) (co:Nat->Nat->Int):Int:=bif ieq (B2 a n g m x t k p r q ln co) 0 then (bif ieq a 1 then 0 else 5) else 70
def RF:List V->AE
 | [v]=>apS v λs=>.br (BC s.ne) (.br (BG s) (.leaf (iV (B1 s.arch s.ne s.E s.nx s.X s.tt s.kk s.nr s.R s.nc (λi=>(s.C i).1) (λi=>(s.C i).2)),[])) .fail) .fail
 | _=>.fail
def lwX (a:Int) (n:Nat) (g:Nat->E6) (m:Nat) (x:Nat->Ev5) (t k:Int) (p:Nat) (r:Nat->Int) (q:Nat) (ln:Nat->Nat) (co:Nat->Nat->Int):Nat->Nat:=(wsS ⟨a,n,g,m,x,t,k,p,r,q,λu=>(ln u,co u)⟩).lw
def cwX (a:Int) (n:Nat) (g:Nat->E6) (m:Nat) (x:Nat->Ev5) (t k:Int) (p:Nat) (r:Nat->Int) (q:Nat) (ln:Nat->Nat) (co:Nat->Nat->Int):Nat->Nat->In4:=(wsS ⟨a,n,g,m,x,t,k,p,r,q,λu=>(ln u,co u)⟩).cw
def yyX (a:Int) (n:Nat) (g:Nat->E6) (m:Nat) (x:Nat->Ev5) (t k:Int) (p:Nat) (r:Nat->Int) (q:Nat) (ln:Nat->Nat) (co:Nat->Nat->Int):Nat->Int:=(wsS ⟨a,n,g,m,x,t,k,p,r,q,λu=>(ln u,co u)⟩).y
def wrX (a:Int) (n:Nat) (g:Nat->E6) (m:Nat) (x:Nat->Ev5) (t k:Int) (p:Nat) (r:Nat->Int) (q:Nat) (ln:Nat->Nat) (co:Nat->Nat->Int):Bool:=wrB ⟨a,n,g,m,x,t,k,p,r,q,λu=>(ln u,co u)⟩
def LJ:List V->AE
 | [v]=>apS v λs=>.br (wrX s.arch s.ne s.E s.nx s.X s.tt s.kk s.nr s.R s.nc (λi=>(s.C i).1) (λi=>(s.C i).2)) (.leaf (.tup [.jref 0,.ref 1],[.jag ⟨49,1,toN s.tt,λ_=>.und,0,51,8,λ_=>true,lwX s.arch s.ne s.E s.nx s.X s.tt s.kk s.nr s.R s.nc (λi=>(s.C i).1) (λi=>(s.C i).2),λu j=>inV (cwX s.arch s.ne s.E s.nx s.X s.tt s.kk s.nr s.R s.nc (λi=>(s.C i).1) (λi=>(s.C i).2) u j)⟩,.row 3 1 s.nx (λi=>iV (yyX s.arch s.ne s.E s.nx s.X s.tt s.kk s.nr s.R s.nc (λi=>(s.C i).1) (λi=>(s.C i).2) i))])) .fail
 | _=>.fail
theorem AmP:Ax Tryz.prog Gl 16 LJ:=p75
def codeT:List V->AE
 | [v]=>apS v λs=>.br (BC s.ne) (.br (BG s) (.br (ieq (B1 s.arch s.ne s.E s.nx s.X s.tt s.kk s.nr s.R s.nc (λi=>(s.C i).1) (λi=>(s.C i).2)) 0) (.br (wrX s.arch s.ne s.E s.nx s.X s.tt s.kk s.nr s.R s.nc (λi=>(s.C i).1) (λi=>(s.C i).2)) (.leaf (.tup [.jref 0,iV 0],[.jag ⟨49,1,toN s.tt,λ_=>.und,0,51,8,λ_=>true,lwX s.arch s.ne s.E s.nx s.X s.tt s.kk s.nr s.R s.nc (λi=>(s.C i).1) (λi=>(s.C i).2),λu j=>inV (cwX s.arch s.ne s.E s.nx s.X s.tt s.kk s.nr s.R s.nc (λi=>(s.C i).1) (λi=>(s.C i).2) u j)⟩])) .fail)
  (.leaf (.tup [.jref 0,iV (B1 s.arch s.ne s.E s.nx s.X s.tt s.kk s.nr s.R s.nc (λi=>(s.C i).1) (λi=>(s.C i).2))],[.jag ⟨49,1,0,λ_=>.und,0,51,8,λ_=>true,λ_=>0,λ_ _=>.und⟩]))) .fail) .fail
 | _=>.fail
def Qt:List V->AE
 | [v]=>apS v λs=>.br (BC s.ne) (.br (BG s) (.br (ieq (B1 s.arch s.ne s.E s.nx s.X s.tt s.kk s.nr s.R s.nc (λi=>(s.C i).1) (λi=>(s.C i).2)) 0) (.br (wrX s.arch s.ne s.E s.nx s.X s.tt s.kk s.nr s.R s.nc (λi=>(s.C i).1) (λi=>(s.C i).2)) (.leaf (.tup [.ref 0,iV 0],[.row 3 1 s.nx λi=>iV (yyX s.arch s.ne s.E s.nx s.X s.tt s.kk s.nr s.R s.nc (λi=>(s.C i).1) (λi=>(s.C i).2) i)])) .fail)
  (.leaf (.tup [.ref 0,iV (B1 s.arch s.ne s.E s.nx s.X s.tt s.kk s.nr s.R s.nc (λi=>(s.C i).1) (λi=>(s.C i).2))],[.row 3 1 0 λ_=>.und]))) .fail) .fail
 | _=>.fail
def AcH:List V->AE
 | [v]=>apL v λn f=>.br (BC n) (.br (ieq (BK 1 n f) 0) (.leaf (.tup [Ry 1 n (shG n f),bV true],Oh n (shG n f))) (.leaf (.tup [noV,bV false],noH))) .fail
 | _=>.fail
noncomputable def Tz:AK:=(35,GE)::[]
theorem AaP:Aq Tryz.prog Gl Tz:=.cons AbK .nil
noncomputable def VE:AK:=(14,RF)::(16,LJ)::[]
noncomputable def tb41:AK:=(33,ofT)::[]
theorem tb41_ok:Aq Tryz.prog Gl tb41:=.cons p15 .nil
section
variable (L:LT) (a:Int) (n:Nat) (g:Nat->E6) (m:Nat) (x:Nat->Ev5) (t k:Int) (p:Nat) (r:Nat->Int) (q:Nat) (ln:Nat->Nat) (co:Nat->Nat->Int)
include L a n g m x t k p r q ln co
theorem Ao5 (h21:A4 q (λi=>A4 (ln i) (λ_=>true))=true) (h22:BC n=true) (h23:Af n=true) (h24:Af m=true) (h25:Af p=true) (h26:Af q=true) (h27:A4 q (λi=>Af (ln i))=true) (h28:ieq (B2 a n g m x t k p r q ln (λi i_1=>co i i_1)) 0=false):(Ay (Ai tab ⟨Am Tz,L,Gl⟩ Tryz.f14 [.agg (shL a n g m x t k p r q ln co)] [])).sem=some ((iV 70),[]):=by
 exact Ac (ks:=[kL n,kL m,kL p,kn h21,kn h22,kA (kn h23) (kA (kn h24) (kA (kn h25) (kA (kn h26) (kn h27)))),kN (kn h28)]) (by kernel_rfl)
theorem Ao6 (h22:A4 q (λi=>A4 (ln i) (λ_=>true))=true) (h23:BC n=true) (h24:Af n=true) (h25:Af m=true) (h26:Af p=true) (h27:Af q=true) (h28:A4 q (λi=>Af (ln i))=true) (h29:ieq (B2 a n g m x t k p r q ln (λi i_1=>co i i_1)) 0=true) (h0:ieq a 1=false):(Ay (Ai tab ⟨Am Tz,L,Gl⟩ Tryz.f14 [.agg (shL a n g m x t k p r q ln co)] [])).sem=some ((iV 5),[]):=by
 exact Ac (ks:=[kL n,kL m,kL p,kn h22,kn h23,kA (kn h24) (kA (kn h25) (kA (kn h26) (kA (kn h27) (kn h28)))),kN (kn h29),kN (kn h0)]) (by kernel_rfl)
theorem Ao4 (h22:A4 q (λi=>A4 (ln i) (λ_=>true))=true) (h23:BC n=true) (h24:Af n=true) (h25:Af m=true) (h26:Af p=true) (h27:Af q=true) (h28:A4 q (λi=>Af (ln i))=true) (h29:ieq (B2 a n g m x t k p r q ln (λi i_1=>co i i_1)) 0=true) (h0:ieq a 1=true):(Ay (Ai tab ⟨Am Tz,L,Gl⟩ Tryz.f14 [.agg (shL a n g m x t k p r q ln co)] [])).sem=some ((iV 0),[]):=by
 exact Ac (ks:=[kL n,kL m,kL p,kn h22,kn h23,kA (kn h24) (kA (kn h25) (kA (kn h26) (kA (kn h27) (kn h28)))),kN (kn h29),kN (kn h0)]) (by kernel_rfl)
end
theorem p74:Ax Tryz.prog Gl 14 RF:=by
 refine Aj A7 mixed Tryz.func14 (by kernel_rfl) (by kernel_rfl) λvs v h' h=>?_;unfold RF at h;split at h
 ·rename_i v1
  obtain ⟨s,a1,h⟩:=apS_some h;obtain ⟨hf,h⟩:=Ad h;obtain ⟨hn,h⟩:=Ad h;obtain ⟨a,n,g,m,x,t,k,p,r,q,C⟩:=s;obtain ⟨ln,co,hC⟩:∃ (ln:Nat->Nat) (co:Nat->Nat->Int),C=λu=>(ln u,co u):=⟨λu=>(C u).1,λu=>(C u).2,rfl⟩;subst hC;have hA:Bj [v1] [.agg (shL a n g m x t k p r q ln co)]:=λS w cs hv=>by
   obtain ⟨c,l,rfl,q1,q2⟩:=hv;exact ⟨c,_,rfl,a1 S w c q1,q2⟩
  have hn:Af n=true∧Af m=true∧Af p=true∧Af q=true∧(A4 q λi=>Af (ln i))=true:=by simpa [BG,Ao] using hn
  obtain ⟨n1,n2,n3,n4,n5⟩:=hn;have:=Ab h;simp only [Prod.mk.injEq] at this;obtain ⟨rfl,rfl⟩:=this;have hx:=AH AaP [] (G:=Gl);refine ⟨_,AA Gl Tz [],_,hA,rfl,hx.1,hx.2,?_,Av.refl _⟩;show _=some (iV (B1 a n g m x t k p r q ln co),_);unfold B1;cases hc:ieq (B2 a n g m x t k p r q ln co) 0 with
  | false=>exact Ao5 _ a n g m x t k p r q ln co (CN () ()) hf n1 n2 n3 n4 n5 hc
  | true =>
   cases ha:ieq a 1 with
   | false=>exact Ao6 _ a n g m x t k p r q ln co (CN () ()) hf n1 n2 n3 n4 n5 hc ha
   | true=>exact Ao4 _ a n g m x t k p r q ln co (CN () ()) hf n1 n2 n3 n4 n5 hc ha
 ·cases h
theorem XB:Aq Tryz.prog Gl VE:=.cons p74 <| .cons AmP .nil
section
variable (L:LT) (a:Int) (n:Nat) (g:Nat->E6) (m:Nat) (x:Nat->Ev5) (t k:Int) (p:Nat) (r:Nat->Int) (q:Nat) (ln:Nat->Nat) (co:Nat->Nat->Int)
include L a n g m x t k p r q ln co
theorem AoG (h21:A4 q (λi=>A4 (ln i) (λ_=>true))=true) (h22:BC n=true) (h23:Af n=true) (h24:Af m=true) (h25:Af p=true) (h26:Af q=true) (h27:A4 q (λi=>Af (ln i))=true) (h28:ieq (B1 a n g m x t k p r q ln (λi i_1=>co i i_1)) 0=false):(Ay (Ai tab ⟨Am VE,L,Gl⟩ Tryz.f34 [.agg (shL a n g m x t k p r q ln co)] [])).sem=some ((.tup [.jref 0,iV (B1 a n g m x t k p r q ln (λi i_1=>co i i_1))]),[.jag (Jag.mk 49 1 0 Aa 0 51 8 (λ_=>true) (λ_=>0) (λ_ _=>.und))]):=by
 exact Ac (ks:=[kL n,kL m,kL p,kn h21,kn h22,kA (kn h23) (kA (kn h24) (kA (kn h25) (kA (kn h26) (kn h27)))),kN (kn h28)]) (by kernel_rfl)
theorem AoF (h21:A4 q (λi=>A4 (ln i) (λ_=>true))=true) (h22:BC n=true) (h23:Af n=true) (h24:Af m=true) (h25:Af p=true) (h26:Af q=true) (h27:A4 q (λi=>Af (ln i))=true) (h28:ieq (B1 a n g m x t k p r q ln (λi i_1=>co i i_1)) 0=true) (h29:wrX a n g m x t k p r q ln (λi i_1=>co i i_1)=true):(Ay (Ai tab ⟨Am VE,L,Gl⟩ Tryz.f34 [.agg (shL a n g m x t k p r q ln co)] [])).sem=some ((.tup [.jref 0,iV 0]),[.jag (Jag.mk 49 1 (toN t) Aa 0 51 8 (λ_=>true) (lwX a n g m x t k p r q ln (λi i_1=>co i i_1)) (λu j=>.agg [iV (cwX a n g m x t k p r q ln (λi i_1=>co i i_1) u j).op,iV (cwX a n g m x t k p r q ln (λi i_1=>co i i_1) u j).d,iV 0,iV 0,iV (cwX a n g m x t k p r q ln (λi i_1=>co i i_1) u j).imm,.str (cwX a n g m x t k p r q ln (λi i_1=>co i i_1) u j).loc,.str [],iV 0]))]):=by
 exact Ac (ks:=[kL n,kL m,kL p,kn h21,kn h22,kA (kn h23) (kA (kn h24) (kA (kn h25) (kA (kn h26) (kn h27)))),kN (kn h28),kL n,kL m,kL p,kn h21,kn h29]) (by kernel_rfl)
end
theorem p42:Ax Tryz.prog Gl 34 codeT:=by
 refine Aj A7 mixed Tryz.func34 (by kernel_rfl) (by kernel_rfl) λvs v h' h=>?_;unfold codeT at h;split at h
 ·rename_i v1
  obtain ⟨s,a1,h⟩:=apS_some h;obtain ⟨hf,h⟩:=Ad h;obtain ⟨hn,h⟩:=Ad h;obtain ⟨a,n,g,m,x,t,k,p,r,q,C⟩:=s;obtain ⟨ln,co,hC⟩:∃ (ln:Nat->Nat) (co:Nat->Nat->Int),C=λu=>(ln u,co u):=⟨λu=>(C u).1,λu=>(C u).2,rfl⟩;subst hC;have hA:Bj [v1] [.agg (shL a n g m x t k p r q ln co)]:=λS w cs hv=>by
   obtain ⟨c,l,rfl,q1,q2⟩:=hv;exact ⟨c,_,rfl,a1 S w c q1,q2⟩
  have hn:Af n=true∧Af m=true∧Af p=true∧Af q=true∧(A4 q λi=>Af (ln i))=true:=by simpa [BG,Ao] using hn
  obtain ⟨n1,n2,n3,n4,n5⟩:=hn;have hx:=AH XB [] (G:=Gl);cases hc:ieq (B1 a n g m x t k p r q ln co) 0 with
  | false =>simp only [hc,T.sem,sel,cond_false,Option.some.injEq,Prod.mk.injEq] at h;obtain ⟨rfl,rfl⟩:=h;exact ⟨_,AA Gl VE [],_,hA,rfl,hx.1,hx.2,AoG _ a n g m x t k p r q ln co (CN () ()) hf n1 n2 n3 n4 n5 hc,Av.refl _⟩
  | true =>simp only [hc] at h;obtain ⟨hw,h⟩:=Ad h;have:=Ab h;simp only [Prod.mk.injEq] at this;obtain ⟨rfl,rfl⟩:=this;exact ⟨_,AA Gl VE [],_,hA,rfl,hx.1,hx.2,AoF _ a n g m x t k p r q ln co (CN () ()) hf n1 n2 n3 n4 n5 hc hw,Av.refl _⟩
 ·cases h
theorem p45:Ax Tryz.prog Gl 12 Qt:=by
 refine Aj A7 mixed Tryz.func12 (by kernel_rfl) (by kernel_rfl) λvs v h' h=>?_;unfold Qt at h;split at h
 ·rename_i v1
  obtain ⟨s,a1,h⟩:=apS_some h;obtain ⟨hf,h⟩:=Ad h;obtain ⟨hn,h⟩:=Ad h;obtain ⟨a,n,g,m,x,t,k,p,r,q,C⟩:=s;obtain ⟨ln,co,hC⟩:∃ (ln:Nat->Nat) (co:Nat->Nat->Int),C=λu=>(ln u,co u):=⟨λu=>(C u).1,λu=>(C u).2,rfl⟩;subst hC;have hA:Bj [v1] [.agg (shL a n g m x t k p r q ln co)]:=λS w cs hv=>by
   obtain ⟨c,l,rfl,q1,q2⟩:=hv;exact ⟨c,_,rfl,a1 S w c q1,q2⟩
  have hn:Af n=true∧Af m=true∧Af p=true∧Af q=true∧(A4 q λi=>Af (ln i))=true:=by simpa [BG,Ao] using hn
  obtain ⟨n1,n2,n3,n4,n5⟩:=hn;have hx:=AH XB [] (G:=Gl);cases hc:ieq (B1 a n g m x t k p r q ln co) 0 with
  | false =>simp only [hc,T.sem,sel,cond_false,Option.some.injEq,Prod.mk.injEq] at h;obtain ⟨rfl,rfl⟩:=h;exact ⟨_,AA Gl VE [],_,hA,rfl,hx.1,hx.2,Ac (ks:=[kL n,kL m,kL p,kn (eL2 q λu=>(ln u,co u)),kn hf,kA (kn n1) (kA (kn n2) (kA (kn n3) (kA (kn n4) (kn n5)))),kN (kn hc)]) (by kernel_rfl)/-W:w45e-/,Av.refl _⟩
  | true =>simp only [hc] at h;obtain ⟨hw,h⟩:=Ad h;have:=Ab h;simp only [Prod.mk.injEq] at this;obtain ⟨rfl,rfl⟩:=this;exact ⟨_,AA Gl VE [],_,hA,rfl,hx.1,hx.2,Ac (ks:=[kL n,kL m,kL p,kn (eL2 q λu=>(ln u,co u)),kn hf,kA (kn n1) (kA (kn n2) (kA (kn n3) (kA (kn n4) (kn n5)))),kN (kn hc),kL n,kL m,kL p,kn (eL2 q (λu=>(ln u,co u))),kn hw]) (by kernel_rfl)/-W:w45o-/,Av.refl _⟩
 ·cases h
theorem AoH (L:LT) (n:Nat) (f:Nat->E6) (h21:BC n=true) (h0:ieq (BK 1 n f) 0=false):(Ay (Ai tab ⟨Am tb41,L,Gl⟩ Tryz.f11 [.sl 6 n λi=>eV (f i)] [])).sem=some ((.tup [.agg [iV 0,.ref 0,.ref 1,iV 0,iV 0,.ref 2,.jref 3],bV (ieq (BK 1 n f) 0)]),[.row 92 6 0 Aa,.row 80 5 0 Aa,.row 3 1 0 Aa,.jag (Jag.mk 24 1 0 Aa 0 3 1 (λ_=>true) (λ_=>0) (λ_ _=>.und))]):=by
 exact Ac (ks:=[kL n,kn h21,kn h0]) (by kernel_rfl)
theorem Ap5:Ax Tryz.prog Gl 11 AcH:=by
 refine Aj A7 mixed Tryz.func11 (by kernel_rfl) (by kernel_rfl) λvs v h' h=>?_;unfold AcH at h;split at h
 ·rename_i u
  obtain ⟨n,f,ha,h1⟩:=Co h;obtain ⟨hf,h1⟩:=Ad h1;have hA:Bj [u] [.sl 6 n λi=>eV (f i)]:=λS w cs hv=>by
   obtain ⟨c,l,rfl,q1,q2⟩:=hv;exact ⟨c,_,rfl,ha S w c q1,q2⟩
  have hx:=AH tb41_ok [] (G:=Gl);refine ⟨_,AA Gl tb41 [],_,hA,rfl,hx.1,hx.2,?_,Av.refl _⟩;cases hc:ieq (BK 1 n f) 0 with
  | false =>simp only [hc,T.sem,sel,cond_false,Option.some.injEq,Prod.mk.injEq] at h1;obtain ⟨rfl,rfl⟩:=h1;have:=AoH (Ba []) n f hf hc;rw [hc] at this;exact this
  | true =>simp only [hc,T.sem,sel,cond_true,Option.some.injEq,Prod.mk.injEq] at h1;obtain ⟨rfl,rfl⟩:=h1;exact Ac (ks:=[kL n,kn hf,kn hc]) (by kernel_rfl)/-W:w41o-/
 ·cases h
end Go.Proofs.YtkgdhhieomndeaaGreatDoor.Sh
