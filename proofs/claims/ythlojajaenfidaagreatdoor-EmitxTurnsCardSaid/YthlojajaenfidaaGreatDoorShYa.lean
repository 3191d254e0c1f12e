/-
  Layer 11: the code of a shape (functions 42, 74), as it is called; what must come (function 43). No conditions.
-/
import Derived.Test.YthlojajaenfidaaGreatDoorShU
import Derived.Test.YthlojajaenfidaaGreatDoorShS
import Derived.Test.YthlojajaenfidaaGreatDoorCyJ
import Derived.Test.YthlojajaenfidaaGreatDoorShT
import Derived.Test.YthlojajaenfidaaGreatDoorShI
namespace Go.Proofs.YthlojajaenfidaaGreatDoor.Sh
open Go.Sy Ed
set_option maxHeartbeats 1000000
set_option maxRecDepth 4000
noncomputable def Agh:List (Nat × (List V->T (V × List Blk))):=(40,KU) :: (19,MY) :: []
theorem Qt:A8 Tryz.prog Gl Agh:=.cons Adc <| .cons p75 .nil
noncomputable def Ai4:Cx:=⟨KX [(17,K2 tab (AN Gl Agh []) Tryz.f17)] (Ak Agh),AP [],Gl⟩
theorem Xo:Bg Tryz.prog Ai4.base ∧ BF Ai4 :=
 ⟨GK mixed (.cons rfl AI (AK Qt []).1 (AK Qt []).2 Tryz.func17 (by kernel_rfl) (by kernel_rfl) .nil) (DP rfl Qt),
  λid f st r hr=>by
   have hr:(AP [] id f st).sem = some r:=hr
   cases hr⟩
noncomputable def AjC:List (Nat × (List V->T (V × List Blk))):=(24,psT) :: (23,ofT) :: []
theorem Ac2:A8 Tryz.prog Gl AjC:=.cons p41 <| .cons p15 .nil
noncomputable def AdS:Cx:=⟨KX [(25,K2 tab Ai4 Tryz.f25)] (Ak AjC),AP [],Gl⟩
theorem AdR:Bg Tryz.prog AdS.base ∧ BF AdS :=
 ⟨GK mixed (.cons rfl AI Xo.1 Xo.2 Tryz.func25 (by kernel_rfl) (by kernel_rfl) .nil) (DP rfl Ac2),
  λid f st r hr=>by
   have hr:(AP [] id f st).sem = some r:=hr
   cases hr⟩
theorem AlB:(Au (Ah tab AdS Tryz.f9 [] [])).sem = some (bV true,[]):=by kernel_rfl
theorem p43:A6 Tryz.prog Gl 9 (YP (bV true)):=by
 refine A6.congr (AL AI mixed Tryz.func9 (by kernel_rfl) (by kernel_rfl) (Γ:=AdS) AdR) λvs r h=>?_
 unfold YP at h
 split at h
 ·rw [Ac h]
  exact AlB
 ·cases h
end Go.Proofs.YthlojajaenfidaaGreatDoor.Sh
namespace Go.Proofs.YthlojajaenfidaaGreatDoor.Sh
open Go.Sy Ed
set_option maxHeartbeats 1000000
set_option maxRecDepth 4000
def EJ (a:Int) (n:Nat) (g:Nat->E6) (m:Nat) (x:Nat->Ev5) (t k:Int) (p:Nat) (r:Nat->Int) (q:Nat) (ln:Nat->Nat) (co:Nat->Nat->Int):Int:=bif ieq (B6 a n g m x t k p r q ln co) 0 then (bif ieq a 1 then 0 else 5) else 70
def UE:List V->T (V × List Blk)
 | [v]=>apS v λs=>.br (Be s.ne) (.br (Cm s) (.leaf (iV (EJ s.arch s.ne s.E s.nx s.X s.tt s.kk s.nr s.R s.nc (λi=>(s.C i).1) (λi=>(s.C i).2)),[])) .fail) .fail
 | _=>.fail
def lwX (a:Int) (n:Nat) (g:Nat->E6) (m:Nat) (x:Nat->Ev5) (t k:Int) (p:Nat) (r:Nat->Int) (q:Nat) (ln:Nat->Nat) (co:Nat->Nat->Int):Nat->Nat:=(wsS ⟨a,n,g,m,x,t,k,p,r,q,λu=>(ln u,co u)⟩).lw
def cwX (a:Int) (n:Nat) (g:Nat->E6) (m:Nat) (x:Nat->Ev5) (t k:Int) (p:Nat) (r:Nat->Int) (q:Nat) (ln:Nat->Nat) (co:Nat->Nat->Int):Nat->Nat->In4:=(wsS ⟨a,n,g,m,x,t,k,p,r,q,λu=>(ln u,co u)⟩).cw
def yyX (a:Int) (n:Nat) (g:Nat->E6) (m:Nat) (x:Nat->Ev5) (t k:Int) (p:Nat) (r:Nat->Int) (q:Nat) (ln:Nat->Nat) (co:Nat->Nat->Int):Nat->Int:=(wsS ⟨a,n,g,m,x,t,k,p,r,q,λu=>(ln u,co u)⟩).y
def wrX (a:Int) (n:Nat) (g:Nat->E6) (m:Nat) (x:Nat->Ev5) (t k:Int) (p:Nat) (r:Nat->Int) (q:Nat) (ln:Nat->Nat) (co:Nat->Nat->Int):Bool:=wrB ⟨a,n,g,m,x,t,k,p,r,q,λu=>(ln u,co u)⟩
def Pg:List V->T (V × List Blk)
 | [v]=>apS v λs=>.br (wrX s.arch s.ne s.E s.nx s.X s.tt s.kk s.nr s.R s.nc (λi=>(s.C i).1) (λi=>(s.C i).2)) (.leaf (.tup [.jref 0,.ref 1],[.jag ⟨79,1,toN s.tt,λ_=>.und,0,81,8,λ_=>true,lwX s.arch s.ne s.E s.nx s.X s.tt s.kk s.nr s.R s.nc (λi=>(s.C i).1) (λi=>(s.C i).2),λu j=>inV (cwX s.arch s.ne s.E s.nx s.X s.tt s.kk s.nr s.R s.nc (λi=>(s.C i).1) (λi=>(s.C i).2) u j)⟩,.row 3 1 s.nx (λi=>iV (yyX s.arch s.ne s.E s.nx s.X s.tt s.kk s.nr s.R s.nc (λi=>(s.C i).1) (λi=>(s.C i).2) i))])) .fail
 | _=>.fail
theorem AmN:A6 Tryz.prog Gl 19 Pg:=p75
def AaR:List V->T (V × List Blk)
 | [v]=>apL v λn f=>.br (Be n) (.br (ieq (BN 1 n f) 0) (.leaf (.tup [Nx 1 n (shG n f),bV true],Ny n (shG n f))) (.leaf (.tup [noV,bV false],noH))) .fail
 | _=>.fail
noncomputable def RX:List (Nat × (List V->T (V × List Blk))):=(40,KU) :: []
theorem Zd:A8 Tryz.prog Gl RX:=.cons Adc .nil
noncomputable def tb41:List (Nat × (List V->T (V × List Blk))):=(23,ofT) :: []
theorem tb41_ok:A8 Tryz.prog Gl tb41:=.cons p15 .nil
section
variable (L:LT) (a:Int) (n:Nat) (g:Nat->E6) (m:Nat) (x:Nat->Ev5) (t k:Int) (p:Nat) (r:Nat->Int) (q:Nat) (ln:Nat->Nat) (co:Nat->Nat->Int)
include L a n g m x t k p r q ln co
theorem AlQ (h21:AJ q (λi=>(AJ (ln i) (λ_=>true))) = true) (h22:Be n = true) (h23:Ao n = true) (h24:Ao m = true) (h25:Ao p = true) (h26:Ao q = true) (h27:AJ q (λi=>(Ao (ln i))) = true) (h28:ieq (B6 a n g m x t k p r q ln (λi i_1=>(co i i_1))) 0 = false):(Au (Ah tab ⟨Ak RX,L,Gl⟩ Tryz.f17 [.agg (shL a n g m x t k p r q ln co)] [])).sem = some ((iV 70),[]):=by
 exact Aa (ks:=[kL n,kL m,kL p,kn h21,kn h22,kA (kn h23) (kA (kn h24) (kA (kn h25) (kA (kn h26) (kn h27)))),kN (kn h28)]) (by kernel_rfl)
theorem AlR (h22:AJ q (λi=>(AJ (ln i) (λ_=>true))) = true) (h23:Be n = true) (h24:Ao n = true) (h25:Ao m = true) (h26:Ao p = true) (h27:Ao q = true) (h28:AJ q (λi=>(Ao (ln i))) = true) (h29:ieq (B6 a n g m x t k p r q ln (λi i_1=>(co i i_1))) 0 = true) (h0:ieq a 1 = false):(Au (Ah tab ⟨Ak RX,L,Gl⟩ Tryz.f17 [.agg (shL a n g m x t k p r q ln co)] [])).sem = some ((iV 5),[]):=by
 exact Aa (ks:=[kL n,kL m,kL p,kn h22,kn h23,kA (kn h24) (kA (kn h25) (kA (kn h26) (kA (kn h27) (kn h28)))),kN (kn h29),kN (kn h0)]) (by kernel_rfl)
theorem AlP (h22:AJ q (λi=>(AJ (ln i) (λ_=>true))) = true) (h23:Be n = true) (h24:Ao n = true) (h25:Ao m = true) (h26:Ao p = true) (h27:Ao q = true) (h28:AJ q (λi=>(Ao (ln i))) = true) (h29:ieq (B6 a n g m x t k p r q ln (λi i_1=>(co i i_1))) 0 = true) (h0:ieq a 1 = true):(Au (Ah tab ⟨Ak RX,L,Gl⟩ Tryz.f17 [.agg (shL a n g m x t k p r q ln co)] [])).sem = some ((iV 0),[]):=by
 exact Aa (ks:=[kL n,kL m,kL p,kn h22,kn h23,kA (kn h24) (kA (kn h25) (kA (kn h26) (kA (kn h27) (kn h28)))),kN (kn h29),kN (kn h0)]) (by kernel_rfl)
end
theorem p74:A6 Tryz.prog Gl 17 UE:=by
 refine Av AI mixed Tryz.func17 (by kernel_rfl) (by kernel_rfl) λvs v h' h=>?_
 unfold UE at h
 split at h
 ·rename_i v1
  obtain ⟨s,a1,h⟩:=apS_some h
  obtain ⟨hf,h⟩:=Ad h
  obtain ⟨hn,h⟩:=Ad h
  obtain ⟨a,n,g,m,x,t,k,p,r,q,C⟩:=s
  obtain ⟨ln,co,hC⟩:∃ (ln:Nat->Nat) (co:Nat->Nat->Int),C = λu=>(ln u,co u):=⟨λu=>(C u).1,λu=>(C u).2,rfl⟩
  subst hC
  have hA:Bm [v1] [.agg (shL a n g m x t k p r q ln co)]:=λS w cs hv=>by
   obtain ⟨c,l,rfl,q1,q2⟩:=hv
   exact ⟨c,_,rfl,a1 S w c q1,q2⟩
  have hn:Ao n = true ∧ Ao m = true ∧ Ao p = true ∧ Ao q = true ∧ (AJ q λi=>Ao (ln i)) = true:=by simpa [Cm,Al] using hn
  obtain ⟨n1,n2,n3,n4,n5⟩:=hn
  have:=Ac h
  simp only [Prod.mk.injEq] at this
  obtain ⟨rfl,rfl⟩:=this
  have hx:=AK Zd [] (G:=Gl)
  refine ⟨_,AN Gl RX [],_,hA,rfl,hx.1,hx.2,?_,A0.refl _⟩
  show _ = some (iV (EJ a n g m x t k p r q ln co),_)
  unfold EJ
  cases hc:ieq (B6 a n g m x t k p r q ln co) 0 with
  | false=>exact AlQ _ a n g m x t k p r q ln co (Fh () ()) hf n1 n2 n3 n4 n5 hc
  | true =>
   cases ha:ieq a 1 with
   | false=>exact AlR _ a n g m x t k p r q ln co (Fh () ()) hf n1 n2 n3 n4 n5 hc ha
   | true=>exact AlP _ a n g m x t k p r q ln co (Fh () ()) hf n1 n2 n3 n4 n5 hc ha
 ·cases h
section
variable (L:LT) (n:Nat) (f:Nat->E6)
include L n f
theorem Amf (h21:Be n = true) (h0:ieq (BN 1 n f) 0 = false):(Au (Ah tab ⟨Ak tb41,L,Gl⟩ Tryz.f7 [.sl 6 n λi=>eV (f i)] [])).sem = some ((.tup [(.agg [(iV 0),(.ref 0),(.ref 1),(iV 0),(iV 0),(.ref 2),(.jref 3)]),(bV (ieq (BN 1 n f) 0))]),[(.row 57 6 0 (λ_=>.und)),(.row 61 5 0 (λ_=>.und)),r3Z,(.jag (Jag.mk 24 1 0 (λ_=>.und) 0 3 1 (λ_=>true) (λ_=>0) (λ_ _=>.und)))]):=by
 exact Aa (ks:=[kL n,kn h21,kn h0]) (by kernel_rfl)
theorem Ame (h21:Be n = true) (h0:ieq (BN 1 n f) 0 = true):(Au (Ah tab ⟨Ak tb41,L,Gl⟩ Tryz.f7 [.sl 6 n λi=>eV (f i)] [])).sem = some ((.tup [(.agg [(iV 1),(.ref 0),(.ref 1),(iV (Int.ofNat (ttN n (shG n f)))),(iV (Int.ofNat (kkN n (shG n f)))),(.ref 2),(.jref 3)]),(bV (ieq 0 0))]),[(.row 57 6 n (λi=>(eV (shG n f i)))),(.row 61 5 n (λi=>(evV (evF n (shG n f) (λ_=>true) i)))),(.row 3 1 n (λi=>(iV (rfF n (shG n f) (λ_=>true) i)))),(.jag (Jag.mk 24 1 (kkN n (shG n f)) (λ_=>.und) 0 3 1 (λ_=>true) (lnN (mbF (shG n f)) (wrF (shG n f)) n) (λk i=>(iV (Int.ofNat (coN (mbF (shG n f)) (wrF (shG n f)) n k i))))))]):=by
 exact Aa (ks:=[kL n,kn h21,kn h0]) (by kernel_rfl)
end
theorem AmR:A6 Tryz.prog Gl 7 AaR:=by
 refine Av AI mixed Tryz.func7 (by kernel_rfl) (by kernel_rfl) λvs v h' h=>?_
 unfold AaR at h
 split at h
 ·rename_i u
  obtain ⟨n,f,ha,h1⟩:=Cc h
  obtain ⟨hf,h1⟩:=Ad h1
  have hA:Bm [u] [.sl 6 n λi=>eV (f i)]:=λS w cs hv=>by
   obtain ⟨c,l,rfl,q1,q2⟩:=hv
   exact ⟨c,_,rfl,ha S w c q1,q2⟩
  have hx:=AK tb41_ok [] (G:=Gl)
  refine ⟨_,AN Gl tb41 [],_,hA,rfl,hx.1,hx.2,?_,A0.refl _⟩
  cases hc:ieq (BN 1 n f) 0 with
  | false =>
   simp only [hc,T.sem,sel,cond_false,Option.some.injEq,Prod.mk.injEq] at h1
   obtain ⟨rfl,rfl⟩:=h1
   have:=Amf (AP []) n f hf hc
   rw [hc] at this
   exact this
  | true =>
   simp only [hc,T.sem,sel,cond_true,Option.some.injEq,Prod.mk.injEq] at h1
   obtain ⟨rfl,rfl⟩:=h1
   exact Ame _ n f hf hc
 ·cases h
end Go.Proofs.YthlojajaenfidaaGreatDoor.Sh
namespace Go.Proofs.YthlojajaenfidaaGreatDoor.Em
open Go.Sy Go Go.Proofs.YthlojajaenfidaaGreatDoor.Ed Go.Proofs.YthlojajaenfidaaGreatDoor.Sh
open Int (ofNat)
set_option maxRecDepth 100000
set_option maxHeartbeats 1000000
def Ju (i:Nat):V:=.agg [iV (-1),iV 0,.str (C6 (ofNat i)),.str [],iV 0]
def DS (m:Nat) (x:Nat->Ev5) (rg:Nat->Int) (q:Nat) (ln:Nat->Nat):Nat:=(Gs m x rg q ln).length
def F9 (m:Nat) (x:Nat->Ev5) (rg:Nat->Int) (q:Nat) (ln:Nat->Nat):Nat->Tg:=gT (Gs m x rg q ln)
def RI (m:Nat) (x:Nat->Ev5) (rg:Nat->Int) (q:Nat) (ln:Nat->Nat):Nat->Int:=gW (Gs m x rg q ln)
noncomputable def Ni:List (Nat × (List V->T (V × List Blk))):=[(17,UE),(18,X5),(19,Pg),(12,LX),(20,ZZ),(21,AiE),(22,Aay)]
theorem Acw:A8 Tryz.prog Gl Ni:=.cons p74 <| .cons p18 <| .cons AmN <| .cons p65 <| .cons Ed.p63 <| .cons p21 <| .cons p37 .nil
def rtS (s:Sh7):Int:=EJ s.arch s.ne s.E s.nx s.X s.tt s.kk s.nr s.R s.nc (λi=>(s.C i).1) (λi=>(s.C i).2)
def axS (s:Sh7):List (Tg × Int):=Gs s.nx s.X (wsS s).y s.nc λi=>(s.C i).1
def Un (s:Sh7):Bool:=ieq s.kk (ofNat (toN s.kk)) && (Nat.ble (toN s.kk) 1023 && (wrB s && (BR s.ne s.E && Qk s s.nx (wsS s).y)))
def Aek (s:Sh7) (nm:List UInt8):V:=.agg [iV s.arch,.str nm,.str (Do s.ne λi=>Bc s.ne s.E i),.ref 0,.jref 1,iV 1,iV (Pd (axS s).length),iV (DG (axS s).length (gT (axS s))).th,iV (DG (axS s).length (gT (axS s))).rg,.str (DG (axS s).length (gT (axS s))).lc,iV (Pe (axS s).length (gW (axS s))),.ref 2]
def Ael (s:Sh7):List Blk:=[.row 74 5 (toN s.kk) Ju,.jag ⟨79,1,toN s.tt,λ_=>.und,0,81,8,λ_=>true,(wsS s).lw,λu j=>inV ((wsS s).cw u j)⟩,.row 38 6 (MD (axS s).length) (BY (gT (axS s)) (gW (axS s)))]
def UW:V:=.agg [iV 0,.str [],.str [],.ref 0,.jref 1,iV 0,iV 0,iV 0,iV 0,.str [],iV 0,.nilS]
def Ra:List Blk:=[.row 74 5 0 (λ_=>.und),.jag ⟨79,1,0,λ_=>.und,0,81,8,λ_=>true,λ_=>0,λ_ _=>.und⟩]
def YY:List V->T (V × List Blk)
 | [v,.str nm]=>apS v λs=>.br (Be s.ne) (.br (Cm s) (.br (ieq (rtS s) 0) (.br (Lx nm) (.br (Un s) (.leaf (.tup [Aek s nm,iV 0],Ael s)) .fail) (.leaf (.tup [UW,iV 130],Ra))) (.leaf (.tup [UW,iV (rtS s)],Ra))) .fail) .fail
 | _=>.fail
section
variable (L:LT) (a:Int) (n:Nat) (g:Nat->E6) (m:Nat) (x:Nat->Ev5) (t k:Int) (p:Nat) (r:Nat->Int) (q:Nat) (ln:Nat->Nat) (co:Nat->Nat->Int) (nm:List UInt8)
include L a n g m x t k p r q ln co nm
theorem w6a (h35:AJ q (λi=>(AJ (ln i) (λ_=>true))) = true) (h36:Be n = true) (h37:Ao n = true) (h38:Ao m = true) (h39:Ao p = true) (h40:Ao q = true) (h41:AJ q (λi=>(Ao (ln i))) = true) (h42:ieq (EJ a n g m x t k p r q ln (λi i_1=>(co i i_1))) 0 = false):(Au (Ah tab ⟨Ak Ni,L,Gl⟩ Tryz.f6 [.agg [iV a,.sl 6 n λi=>eV (g i),.sl 5 m λi=>evV (x i),iV t,iV k,.sl 1 p λi=>iV (r i),.sl 1 q λi=>.sl 1 (ln i) λj=>iV (co i j)],.str nm] [])).sem = some ((.tup [(.agg [(iV 0),(.str []),(.str []),(.ref 0),(.jref 1),(iV 0),(iV 0),(iV 0),(iV 0),(.str []),(iV 0),.nilS]),(iV (EJ a n g m x t k p r q ln (λi i_1=>(co i i_1))))]),[(.row 74 5 0 (λ_=>.und)),(.jag (Jag.mk 79 1 0 (λ_=>.und) 0 81 8 (λ_=>true) (λ_=>0) (λ_ _=>.und)))]):=by
 exact Aa (ks:=[kL n,kL m,kL p,kn h35,kn h36,kA (kn h37) (kA (kn h38) (kA (kn h39) (kA (kn h40) (kn h41)))),kN (kn h42)]) (by kernel_rfl)
theorem w6b (h36:AJ q (λi=>(AJ (ln i) (λ_=>true))) = true) (h37:Be n = true) (h38:Ao n = true) (h39:Ao m = true) (h40:Ao p = true) (h41:Ao q = true) (h42:AJ q (λi=>(Ao (ln i))) = true) (h43:ieq (EJ a n g m x t k p r q ln (λi i_1=>(co i i_1))) 0 = true) (h1:Lx nm = false):(Au (Ah tab ⟨Ak Ni,L,Gl⟩ Tryz.f6 [.agg [iV a,.sl 6 n λi=>eV (g i),.sl 5 m λi=>evV (x i),iV t,iV k,.sl 1 p λi=>iV (r i),.sl 1 q λi=>.sl 1 (ln i) λj=>iV (co i j)],.str nm] [])).sem = some ((.tup [(.agg [(iV 0),(.str []),(.str []),(.ref 0),(.jref 1),(iV 0),(iV 0),(iV 0),(iV 0),(.str []),(iV 0),.nilS]),(iV 130)]),[(.row 74 5 0 (λ_=>.und)),(.jag (Jag.mk 79 1 0 (λ_=>.und) 0 81 8 (λ_=>true) (λ_=>0) (λ_ _=>.und)))]):=by
 exact Aa (ks:=[kL n,kL m,kL p,kn h36,kn h37,kA (kn h38) (kA (kn h39) (kA (kn h40) (kA (kn h41) (kn h42)))),kN (kn h43),kN (kn h1)]) (by kernel_rfl)
end
def Abi (a:Int) (n:Nat) (g:Nat->E6) (m:Nat) (x:Nat->Ev5) (t:Int) (k:Nat) (p:Nat) (r:Nat->Int) (q:Nat) (ln:Nat->Nat) (co:Nat->Nat->Int) (nm:List UInt8) :St:=⟨(jsV 71 0 (λ_=>A7) [(0,(.agg [(iV a),(.sl 6 n (λi=>(eV (g i)))),(.sl 5 m (λi=>(.agg [(iV ((x i)).th),(iV ((x i)).pl),(iV ((x i)).dir),(iV ((x i)).loc),(iV ((x i)).val)]))),(iV t),(nV k),(.sl 1 p (λi=>(iV (r i)))),(.sl 1 q (λi=>(.sl 1 (ln i) (λj=>(iV (co i j))))))])),(1,(.str nm)),(2,(.ptr 0 0)),(4,(.ptr 1 0)),(5,(iV 0)),(6,(iV (EJ a n g m x t (ofNat k) p r q ln (λi i_1=>(co i i_1))))),(7,(.jref 2)),(8,(.ref 3)),(9,(.ref 4)),(10,(iV 0)),(11,(.str (Do n (λi=>(Bc n g i))))),(12,(iV (J0 n (λi=>(Bc n g i))))),(13,(.ptr 6 0)),(17,(.agg [(iV a),(.sl 6 n (λi=>(eV (g i)))),(.sl 5 m (λi=>(.agg [(iV ((x i)).th),(iV ((x i)).pl),(iV ((x i)).dir),(iV ((x i)).loc),(iV ((x i)).val)]))),(iV t),(nV k),(.sl 1 p (λi=>(iV (r i)))),(.sl 1 q (λi=>(.sl 1 (ln i) (λj=>(iV (co i j))))))])),(18,(iV (EJ a n g m x t (ofNat k) p r q ln (λi i_1=>(co i i_1))))),(19,(iV (EJ a n g m x t (ofNat k) p r q ln (λi i_1=>(co i i_1))))),(20,(bV (AG (ieq (EJ a n g m x t (ofNat k) p r q ln (λi i_1=>(co i i_1))) 0)))),(23,(.str nm)),(24,(bV (Lx nm))),(25,(bV (AG (Lx nm)))),(27,(.tup [(.jref 2),(.ref 3)])),(28,(.agg [(iV a),(.sl 6 n (λi=>(eV (g i)))),(.sl 5 m (λi=>(.agg [(iV ((x i)).th),(iV ((x i)).pl),(iV ((x i)).dir),(iV ((x i)).loc),(iV ((x i)).val)]))),(iV t),(nV k),(.sl 1 p (λi=>(iV (r i)))),(.sl 1 q (λi=>(.sl 1 (ln i) (λj=>(iV (co i j))))))])),(29,(.tup [(.jref 2),(.ref 3)])),(30,(.jref 2)),(31,(.ref 3)),(32,(.tup [(.ref 4),(iV 0)])),(33,(.ptr 0 1)),(34,(.sl 6 n (λi=>(eV (g i))))),(35,(.tup [(.ref 4),(iV 0)])),(36,(.ref 4)),(37,(iV 0)),(38,(.tup [(.str (Do n (λi=>(Bc n g i)))),(iV (J0 n (λi=>(Bc n g i))))])),(39,(.ref 4)),(40,(.tup [(.str (Do n (λi=>(Bc n g i)))),(iV (J0 n (λi=>(Bc n g i))))])),(41,(.str (Do n (λi=>(Bc n g i))))),(42,(iV (J0 n (λi=>(Bc n g i))))),(43,(.ptr 0 0)),(44,(iV a)),(45,(.str nm)),(46,(.str (Do n (λi=>(Bc n g i))))),(47,(.jref 2)),(48,(.agg [(iV a),(.sl 6 n (λi=>(eV (g i)))),(.sl 5 m (λi=>(.agg [(iV ((x i)).th),(iV ((x i)).pl),(iV ((x i)).dir),(iV ((x i)).loc),(iV ((x i)).val)]))),(iV t),(nV k),(.sl 1 p (λi=>(iV (r i)))),(.sl 1 q (λi=>(.sl 1 (ln i) (λj=>(iV (co i j))))))])),(49,(.ref 3)),(50,(.agg [(iV 1),(iV (Pd (DS m x (yyX a n g m x t (ofNat k) p r q ln (λi i_1=>(co i i_1))) q ln))),(iV ((DG (DS m x (yyX a n g m x t (ofNat k) p r q ln (λi i_1=>(co i i_1))) q ln) (F9 m x (yyX a n g m x t (ofNat k) p r q ln (λi i_1=>(co i i_1))) q ln))).th),(iV ((DG (DS m x (yyX a n g m x t (ofNat k) p r q ln (λi i_1=>(co i i_1))) q ln) (F9 m x (yyX a n g m x t (ofNat k) p r q ln (λi i_1=>(co i i_1))) q ln))).rg),(.str ((DG (DS m x (yyX a n g m x t (ofNat k) p r q ln (λi i_1=>(co i i_1))) q ln) (F9 m x (yyX a n g m x t (ofNat k) p r q ln (λi i_1=>(co i i_1))) q ln))).lc),(iV (Pe (DS m x (yyX a n g m x t (ofNat k) p r q ln (λi i_1=>(co i i_1))) q ln) (RI m x (yyX a n g m x t (ofNat k) p r q ln (λi i_1=>(co i i_1))) q ln))),(.ref 5)])),(51,(.agg [(iV a),(.str nm),(.str (Do n (λi=>(Bc n g i)))),.nilS,(.jref 2),(iV 1),(iV (Pd (DS m x (yyX a n g m x t (ofNat k) p r q ln (λi i_1=>(co i i_1))) q ln))),(iV ((DG (DS m x (yyX a n g m x t (ofNat k) p r q ln (λi i_1=>(co i i_1))) q ln) (F9 m x (yyX a n g m x t (ofNat k) p r q ln (λi i_1=>(co i i_1))) q ln))).th),(iV ((DG (DS m x (yyX a n g m x t (ofNat k) p r q ln (λi i_1=>(co i i_1))) q ln) (F9 m x (yyX a n g m x t (ofNat k) p r q ln (λi i_1=>(co i i_1))) q ln))).rg),(.str ((DG (DS m x (yyX a n g m x t (ofNat k) p r q ln (λi i_1=>(co i i_1))) q ln) (F9 m x (yyX a n g m x t (ofNat k) p r q ln (λi i_1=>(co i i_1))) q ln))).lc),(iV (Pe (DS m x (yyX a n g m x t (ofNat k) p r q ln (λi i_1=>(co i i_1))) q ln) (RI m x (yyX a n g m x t (ofNat k) p r q ln (λi i_1=>(co i i_1))) q ln))),(.ref 5)])),(52,(.ptr 0 4)),(53,(nV k)),(54,(iV 0))]),[(.cells [(iV a),(.sl 6 n (λi=>(eV (g i)))),(.sl 5 m (λi=>(.agg [(iV ((x i)).th),(iV ((x i)).pl),(iV ((x i)).dir),(iV ((x i)).loc),(iV ((x i)).val)]))),(iV t),(nV k),(.sl 1 p (λi=>(iV (r i)))),(.sl 1 q (λi=>(.sl 1 (ln i) (λj=>(iV (co i j))))))]),(.cells [(iV 0),(.str []),(.str []),.nilS,.nilS,(iV 0),(iV 0),(iV 0),(iV 0),(.str []),(iV 0),.nilS]),(.jag (Jag.mk 79 1 (toN t) (λ_=>.und) 0 81 8 (λ_=>true) (lwX a n g m x t (ofNat k) p r q ln (λi i_1=>(co i i_1))) (λu j=>(.agg [(iV ((cwX a n g m x t (ofNat k) p r q ln (λi i_1=>(co i i_1)) u j)).op),(iV ((cwX a n g m x t (ofNat k) p r q ln (λi i_1=>(co i i_1)) u j)).d),(iV 0),(iV 0),(iV ((cwX a n g m x t (ofNat k) p r q ln (λi i_1=>(co i i_1)) u j)).imm),(.str ((cwX a n g m x t (ofNat k) p r q ln (λi i_1=>(co i i_1)) u j)).loc),(.str []),(iV 0)])))),(.row 3 1 m (λi=>(iV (yyX a n g m x t (ofNat k) p r q ln (λi i_1=>(co i i_1)) i)))),(.row 57 6 n (λi=>(eV (Bc n g i)))),(.row 38 6 (MD (DS m x (yyX a n g m x t (ofNat k) p r q ln (λi i_1=>(co i i_1))) q ln)) (λi=>(.agg [(iV 2),(iV ((F9 m x (yyX a n g m x t (ofNat k) p r q ln (λi i_1=>(co i i_1))) q ln i)).th),(iV ((F9 m x (yyX a n g m x t (ofNat k) p r q ln (λi i_1=>(co i i_1))) q ln i)).rg),(.str ((F9 m x (yyX a n g m x t (ofNat k) p r q ln (λi i_1=>(co i i_1))) q ln i)).lc),(iV (RI m x (yyX a n g m x t (ofNat k) p r q ln (λi i_1=>(co i i_1))) q ln i)),.nilS]))),(.cells [(iV a),(.str nm),(.str (Do n (λi=>(Bc n g i)))),(.ref 7),(.jref 2),(iV 1),(iV (Pd (DS m x (yyX a n g m x t (ofNat k) p r q ln (λi i_1=>(co i i_1))) q ln))),(iV ((DG (DS m x (yyX a n g m x t (ofNat k) p r q ln (λi i_1=>(co i i_1))) q ln) (F9 m x (yyX a n g m x t (ofNat k) p r q ln (λi i_1=>(co i i_1))) q ln))).th),(iV ((DG (DS m x (yyX a n g m x t (ofNat k) p r q ln (λi i_1=>(co i i_1))) q ln) (F9 m x (yyX a n g m x t (ofNat k) p r q ln (λi i_1=>(co i i_1))) q ln))).rg),(.str ((DG (DS m x (yyX a n g m x t (ofNat k) p r q ln (λi i_1=>(co i i_1))) q ln) (F9 m x (yyX a n g m x t (ofNat k) p r q ln (λi i_1=>(co i i_1))) q ln))).lc),(iV (Pe (DS m x (yyX a n g m x t (ofNat k) p r q ln (λi i_1=>(co i i_1))) q ln) (RI m x (yyX a n g m x t (ofNat k) p r q ln (λi i_1=>(co i i_1))) q ln))),(.ref 5)]),(.row 74 5 0 (λ_=>.und))]⟩
def lp6 (a:Int) (n:Nat) (g:Nat->E6) (m:Nat) (x:Nat->Ev5) (t:Int) (k:Nat) (p:Nat) (r:Nat->Int) (q:Nat) (ln:Nat->Nat) (co:Nat->Nat->Int) (nm:List UInt8):Lp:=⟨(bmK 71 0 [4,13,53,54]),8,(bmK 71 0 [4,13]),8,0⟩
def st6 (a:Int) (n:Nat) (g:Nat->E6) (m:Nat) (x:Nat->Ev5) (t:Int) (k:Nat) (p:Nat) (r:Nat->Int) (q:Nat) (ln:Nat->Nat) (co:Nat->Nat->Int) (nm:List UInt8) (b:Nat) (tx:List UInt8) (lw:Nat->Nat) (cw:Nat->Nat->In4) (y:Nat->Int) (cf:Nat->E6) (ku:Nat) (kX:Nat->Tg) (kf:Nat->Int) (k1 k2 k3:Int) (k4:List UInt8) (k5:Int) (j:Nat->V):St:=⟨(jsV 71 0 j [(4,.ptr 1 0),(13,.ptr 6 0),(53,nV k),(54,nV b)]),[.cells [iV a,.sl 6 n λi=>eV (g i),.sl 5 m λi=>evV (x i),iV t,nV k,.sl 1 p λi=>iV (r i),.sl 1 q λi=>.sl 1 (ln i) λj=>iV (co i j)],.cells [iV 0,.str [],.str [],.nilS,.nilS,iV 0,iV 0,iV 0,iV 0,.str [],iV 0,.nilS],.jag ⟨79,1,toN t,λ_=>.und,0,81,8,λ_=>true,lw,λu j=>inV (cw u j)⟩,.row 3 1 m (λi=>iV (y i)),.row 57 6 n (λi=>eV (cf i)),.row 38 6 ku (λi=>BY kX kf i),.cells [iV a,.str nm,.str tx,.ref 7,.jref 2,iV 1,iV k1,iV k2,iV k3,.str k4,iV k5,.ref 5],.row 74 5 b (λi=>Ju i)]⟩
def AdP (a:Int) (n:Nat) (g:Nat->E6) (m:Nat) (x:Nat->Ev5) (t:Int) (k:Nat) (p:Nat) (r:Nat->Int) (q:Nat) (ln:Nat->Nat) (co:Nat->Nat->Int) (nm:List UInt8) (b:Nat) (tx:List UInt8) (lw:Nat->Nat) (cw:Nat->Nat->In4) (y:Nat->Int) (cf:Nat->E6) (ku:Nat) (kX:Nat->Tg) (kf:Nat->Int) (k1 k2 k3:Int) (k4:List UInt8) (k5:Int):Ex × St:=(.ex 0,⟨(jsV 71 0 (λ_=>.und) [(4,.ptr 1 0),(13,.ptr 6 0)]),[.cells [iV a,.sl 6 n λi=>eV (g i),.sl 5 m λi=>evV (x i),iV t,nV k,.sl 1 p λi=>iV (r i),.sl 1 q λi=>.sl 1 (ln i) λj=>iV (co i j)],.cells [iV 0,.str [],.str [],.nilS,.nilS,iV 0,iV 0,iV 0,iV 0,.str [],iV 0,.nilS],.jag ⟨79,1,toN t,λ_=>.und,0,81,8,λ_=>true,lw,λu j=>inV (cw u j)⟩,.row 3 1 m (λi=>iV (y i)),.row 57 6 n (λi=>eV (cf i)),.row 38 6 ku (λi=>BY kX kf i),.cells [iV a,.str nm,.str tx,.ref 7,.jref 2,iV 1,iV k1,iV k2,iV k3,.str k4,iV k5,.ref 5],.row 74 5 b (λi=>Ju i)]⟩)
noncomputable def TK (L:LT):St->T (Ex × St):=λst=>AD tab ⟨Ak Ni,L,Gl⟩ (As Tryz.f6 0) 0 st
section
variable (L:LT) (a:Int) (n:Nat) (g:Nat->E6) (m:Nat) (x:Nat->Ev5) (t:Int) (k:Nat) (p:Nat) (r:Nat->Int) (q:Nat) (ln:Nat->Nat) (co:Nat->Nat->Int) (nm:List UInt8) (b:Nat) (tx:List UInt8) (lw:Nat->Nat) (cw:Nat->Nat->In4) (y:Nat->Int) (cf:Nat->E6) (ku:Nat) (kX:Nat->Tg) (kf:Nat->Int) (k1 k2 k3:Int) (k4:List UInt8) (k5:Int)  (j:Nat->V)
include L a n g m x t k p r q ln co nm b tx lw cw y cf ku kX kf k1 k2 k3 k4 k5 j
theorem r6e (h0:ilt (ofNat b) (ofNat k) = false):Ag (TK L) (lp6 a n g m x t k p r q ln co nm) (st6 a n g m x t k p r q ln co nm b tx lw cw y cf ku kX kf k1 k2 k3 k4 k5 j) = some ((.ex 0),⟨(jsV 71 0 (λ_=>.und) [(4,(.ptr 1 0)),(13,(.ptr 6 0))]),[(.cells [(iV a),(.sl 6 n (λi=>(eV (g i)))),(.sl 5 m (λi=>(.agg [(iV ((x i)).th),(iV ((x i)).pl),(iV ((x i)).dir),(iV ((x i)).loc),(iV ((x i)).val)]))),(iV t),(nV k),(.sl 1 p (λi=>(iV (r i)))),(.sl 1 q (λi=>(.sl 1 (ln i) (λj=>(iV (co i j))))))]),(.cells [(iV 0),(.str []),(.str []),.nilS,.nilS,(iV 0),(iV 0),(iV 0),(iV 0),(.str []),(iV 0),.nilS]),(.jag (Jag.mk 79 1 (toN t) (λ_=>.und) 0 81 8 (λ_=>true) lw (λu j=>(.agg [(iV ((cw u j)).op),(iV ((cw u j)).d),(iV 0),(iV 0),(iV ((cw u j)).imm),(.str ((cw u j)).loc),(.str []),(iV 0)])))),(.row 3 1 m (λi=>(iV (y i)))),(.row 57 6 n (λi=>(eV (cf i)))),(.row 38 6 ku (λi=>(.agg [(iV 2),(iV ((kX i)).th),(iV ((kX i)).rg),(.str ((kX i)).lc),(iV (kf i)),.nilS]))),(.cells [(iV a),(.str nm),(.str tx),(.ref 7),(.jref 2),(iV 1),(iV k1),(iV k2),(iV k3),(.str k4),(iV k5),(.ref 5)]),(.row 74 5 b (λi=>(.agg [(iV (-1)),(iV 0),(.str (C6 (ofNat i))),(.str []),(iV 0)])))]⟩):=by
 exact Aa (ks:=[kn h0]) (by kernel_rfl)
theorem r6n (h0:ilt (ofNat b) (ofNat k) = true) (h35:Bx b 1 56 = true):Ag (TK L) (lp6 a n g m x t k p r q ln co nm) (st6 a n g m x t k p r q ln co nm b tx lw cw y cf ku kX kf k1 k2 k3 k4 k5 j) = some (.nm,⟨(jsV 71 0 (λ_=>.und) [(4,(.ptr 1 0)),(13,(.ptr 6 0)),(53,(nV k)),(54,(iV (wr .i64 (Af (ofNat b) 1))))]),[(.cells [(iV a),(.sl 6 n (λi=>(eV (g i)))),(.sl 5 m (λi=>(.agg [(iV ((x i)).th),(iV ((x i)).pl),(iV ((x i)).dir),(iV ((x i)).loc),(iV ((x i)).val)]))),(iV t),(nV k),(.sl 1 p (λi=>(iV (r i)))),(.sl 1 q (λi=>(.sl 1 (ln i) (λj=>(iV (co i j))))))]),(.cells [(iV 0),(.str []),(.str []),.nilS,.nilS,(iV 0),(iV 0),(iV 0),(iV 0),(.str []),(iV 0),.nilS]),(.jag (Jag.mk 79 1 (toN t) (λ_=>.und) 0 81 8 (λ_=>true) lw (λu j=>(.agg [(iV ((cw u j)).op),(iV ((cw u j)).d),(iV 0),(iV 0),(iV ((cw u j)).imm),(.str ((cw u j)).loc),(.str []),(iV 0)])))),(.row 3 1 m (λi=>(iV (y i)))),(.row 57 6 n (λi=>(eV (cf i)))),(.row 38 6 ku (λi=>(.agg [(iV 2),(iV ((kX i)).th),(iV ((kX i)).rg),(.str ((kX i)).lc),(iV (kf i)),.nilS]))),(.cells [(iV a),(.str nm),(.str tx),(.ref 7),(.jref 2),(iV 1),(iV k1),(iV k2),(iV k3),(.str k4),(iV k5),(.ref 5)]),(.row 74 5 (Bd b 1) (A2 b (λi=>(.agg [(iV (-1)),(iV 0),(.str (C6 (ofNat i))),(.str []),(iV 0)])) (Ju b)))]⟩):=by
 exact Aa (ks:=[kn h0,kn h35]) (by kernel_rfl)
end
theorem w6o (L:LT) (p0:PT) (a:Int) (n:Nat) (g:Nat->E6) (m:Nat) (x:Nat->Ev5) (t:Int) (k:Nat) (p:Nat) (r:Nat->Int) (q:Nat) (ln:Nat->Nat) (co:Nat->Nat->Int) (nm:List UInt8) (b:Nat) (tx:List UInt8) (lw:Nat->Nat) (cw:Nat->Nat->In4) (y:Nat->Int) (cf:Nat->E6) (ku:Nat) (kX:Nat->Tg) (kf:Nat->Int) (k1 k2 k3:Int) (k4:List UInt8) (k5:Int) (h36:AJ q (λi=>(AJ (ln i) (λ_=>true))) = true) (h37:Be n = true) (h38:Ao n = true) (h39:Ao m = true) (h40:Ao p = true) (h41:Ao q = true) (h42:AJ q (λi=>(Ao (ln i))) = true) (h43:ieq (EJ a n g m x t (ofNat k) p r q ln (λi i_1=>(co i i_1))) 0 = true) (h1:Lx nm = true) (h44:wrX a n g m x t (ofNat k) p r q ln (λi i_1=>(co i i_1)) = true) (h45:BR n g = true) (h46:AR [(.cells [(iV a),(.sl 6 n (λi=>(eV (g i)))),(.sl 5 m (λi=>(.agg [(iV ((x i)).th),(iV ((x i)).pl),(iV ((x i)).dir),(iV ((x i)).loc),(iV ((x i)).val)]))),(iV t),(nV k),(.sl 1 p (λi=>(iV (r i)))),(.sl 1 q (λi=>(.sl 1 (ln i) (λj=>(iV (co i j))))))]),(.cells [(iV 0),(.str []),(.str []),.nilS,.nilS,(iV 0),(iV 0),(iV 0),(iV 0),(.str []),(iV 0),.nilS]),(.jag (Jag.mk 79 1 (toN t) (λ_=>.und) 0 81 8 (λ_=>true) (lwX a n g m x t (ofNat k) p r q ln (λi i_1=>(co i i_1))) (λu j=>(.agg [(iV ((cwX a n g m x t (ofNat k) p r q ln (λi i_1=>(co i i_1)) u j)).op),(iV ((cwX a n g m x t (ofNat k) p r q ln (λi i_1=>(co i i_1)) u j)).d),(iV 0),(iV 0),(iV ((cwX a n g m x t (ofNat k) p r q ln (λi i_1=>(co i i_1)) u j)).imm),(.str ((cwX a n g m x t (ofNat k) p r q ln (λi i_1=>(co i i_1)) u j)).loc),(.str []),(iV 0)])))),(.row 3 1 m (λi=>(iV (yyX a n g m x t (ofNat k) p r q ln (λi i_1=>(co i i_1)) i)))),(.row 57 6 n (λi=>(eV (Bc n g i))))] = true) (h47:seq nm nm = true) (h48:seq (Do n (λi=>(Bc n g i))) (Do n (λi=>(Bc n g i))) = true) (h49:Qk (Sh7.mk a n g m x t (ofNat k) p r q (λi=>((ln i),(co i)))) m (yyX a n g m x t (ofNat k) p r q ln (λi i_1=>(co i i_1))) = true) (h50:Bk [(.row 38 6 (MD (DS m x (yyX a n g m x t (ofNat k) p r q ln (λi i_1=>(co i i_1))) q ln)) (λi=>(.agg [(iV 2),(iV ((F9 m x (yyX a n g m x t (ofNat k) p r q ln (λi i_1=>(co i i_1))) q ln i)).th),(iV ((F9 m x (yyX a n g m x t (ofNat k) p r q ln (λi i_1=>(co i i_1))) q ln i)).rg),(.str ((F9 m x (yyX a n g m x t (ofNat k) p r q ln (λi i_1=>(co i i_1))) q ln i)).lc),(iV (RI m x (yyX a n g m x t (ofNat k) p r q ln (λi i_1=>(co i i_1))) q ln i)),.nilS])))] = true) (hp0:p0 (TK (onP 0 p0 (AdP a n g m x t k p r q ln co nm b tx lw cw y cf ku kX kf k1 k2 k3 k4 k5) L)) (Abi a n g m x t k p r q ln co nm) = true):(Au (Ah tab ⟨Ak Ni,(onP 0 p0 (AdP a n g m x t k p r q ln co nm b tx lw cw y cf ku kX kf k1 k2 k3 k4 k5) L),Gl⟩ Tryz.f6 [.agg [iV a,.sl 6 n λi=>eV (g i),.sl 5 m λi=>evV (x i),iV t,nV k,.sl 1 p λi=>iV (r i),.sl 1 q λi=>.sl 1 (ln i) λj=>iV (co i j)],.str nm] [])).sem = some ((.tup [(.agg [(iV a),(.str nm),(.str tx),(.ref 0),(.jref 1),(iV 1),(iV k1),(iV k2),(iV k3),(.str k4),(iV k5),(.ref 2)]),(iV 0)]),[(.row 74 5 b (λi=>(.agg [(iV (-1)),(iV 0),(.str (C6 (ofNat i))),(.str []),(iV 0)]))),(.jag (Jag.mk 79 1 (toN t) (λ_=>.und) 0 81 8 (λ_=>true) lw (λu j=>(.agg [(iV ((cw u j)).op),(iV ((cw u j)).d),(iV 0),(iV 0),(iV ((cw u j)).imm),(.str ((cw u j)).loc),(.str []),(iV 0)])))),(.row 38 6 ku (λi=>(.agg [(iV 2),(iV ((kX i)).th),(iV ((kX i)).rg),(.str ((kX i)).lc),(iV (kf i)),.nilS])))]):=by
 exact Aa (ks:=[kL n,kL m,kL p,kn h36,kn h37,kA (kn h38) (kA (kn h39) (kA (kn h40) (kA (kn h41) (kn h42)))),kN (kn h43),kN (kn h1),kL n,kL m,kL p,kn h36,kn h44,kL n,kn h37,kn h45,kn h46,kL n,kn h37,kI a,kn h47,kn h48,kn h46,kL n,kL m,kL p,kn h36,kL m,kn h49,kn h50,kI a,kn h47,kn h48,kI a,kn h47,kn h48,kn hp0]) (by kernel_rfl)
section
variable (a:Int) (n:Nat) (g:Nat->E6) (m:Nat) (x:Nat->Ev5) (t:Int) (k:Nat) (p:Nat) (r:Nat->Int) (q:Nat) (ln:Nat->Nat) (co:Nat->Nat->Int) (nm:List UInt8) (tx:List UInt8) (lw:Nat->Nat) (cw:Nat->Nat->In4) (y:Nat->Int) (cf:Nat->E6) (ku:Nat) (kX:Nat->Tg) (kf:Nat->Int) (k1 k2 k3:Int) (k4:List UInt8) (k5:Int)
theorem AjO (M:LT) (hk:k <= 1023):∀ (d b:Nat) (j:Nat->V),k = b+d->LRun ⟨Ak Ni,Gl⟩ (TK M) (st6 a n g m x t k p r q ln co nm b tx lw cw y cf ku kX kf k1 k2 k3 k4 k5 j) (AdP a n g m x t k p r q ln co nm k tx lw cw y cf ku kX kf k1 k2 k3 k4 k5)
 | 0,b,j,h=>by
  have:k = b:=by omega
  subst this
  exact LRun.exit (r6e M a n g m x t k p r q ln co nm k tx lw cw y cf ku kX kf k1 k2 k3 k4 k5 j (A9 (Nat.le_refl _))) (by simp)
 | d+1,b,j,h=>by
  have hb:b < k:=by omega
  have h1:=r6n M a n g m x t k p r q ln co nm b tx lw cw y cf ku kX kf k1 k2 k3 k4 k5 j (ofNat_lt hb) (decide_eq_true (by omega))
  rw [An hb (by omega)] at h1
  refine LRun.round h1 (HA (i:=7) (n:=b+1) (g':=Ju) rfl λi _=>?_) (AjO M hk d (b+1) (λ_=>.und) (by omega))
  show Ju i = A2 b Ju (Ju b) i
  rw [Bl]
  cases hi:Nat.beq i b with
  | true=>rw [Nat.eq_of_beq_eq_true hi]; rfl
  | false=>rfl
end
theorem AdO (a:Int) (n:Nat) (g:Nat->E6) (m:Nat) (x:Nat->Ev5) (t:Int) (k:Nat) (p:Nat) (r:Nat->Int) (q:Nat) (ln:Nat->Nat) (co:Nat->Nat->Int) (nm:List UInt8):(⟨(Abi a n g m x t k p r q ln co nm).t,(Abi a n g m x t k p r q ln co nm).h.set 7 (.row 74 5 0 Ju)⟩:St) = st6 a n g m x t k p r q ln co nm 0 (Do n λi=>Bc n g i) (lwX a n g m x t (ofNat k) p r q ln co) (cwX a n g m x t (ofNat k) p r q ln co) (yyX a n g m x t (ofNat k) p r q ln co) (Bc n g)
  (MD (DS m x (yyX a n g m x t (ofNat k) p r q ln co) q ln)) (F9 m x (yyX a n g m x t (ofNat k) p r q ln co) q ln) (RI m x (yyX a n g m x t (ofNat k) p r q ln co) q ln)
  (Pd (DS m x (yyX a n g m x t (ofNat k) p r q ln co) q ln)) (DG (DS m x (yyX a n g m x t (ofNat k) p r q ln co) q ln) (F9 m x (yyX a n g m x t (ofNat k) p r q ln co) q ln)).th (DG (DS m x (yyX a n g m x t (ofNat k) p r q ln co) q ln) (F9 m x (yyX a n g m x t (ofNat k) p r q ln co) q ln)).rg (DG (DS m x (yyX a n g m x t (ofNat k) p r q ln co) q ln) (F9 m x (yyX a n g m x t (ofNat k) p r q ln co) q ln)).lc
  (Pe (DS m x (yyX a n g m x t (ofNat k) p r q ln co) q ln) (RI m x (yyX a n g m x t (ofNat k) p r q ln co) q ln)) (λi=>nth (Abi a n g m x t k p r q ln co nm).t i):=by kernel_rfl
theorem p6t:A6 Tryz.prog Gl 6 YY:=by
 refine Av AI mixed Tryz.func6 (by kernel_rfl) (by kernel_rfl) λvs v h' h=>?_
 unfold YY at h
 split at h
 ·rename_i v1 nm
  obtain ⟨s,a1,h⟩:=apS_some h
  obtain ⟨hf,h⟩:=Ad h
  obtain ⟨hn,h⟩:=Ad h
  obtain ⟨a,n,g,m,x,t,kk,p,r,q,C⟩:=s
  obtain ⟨ln,co,hC⟩:∃ (ln:Nat->Nat) (co:Nat->Nat->Int),C = λu=>(ln u,co u):=⟨λu=>(C u).1,λu=>(C u).2,rfl⟩
  subst hC
  have hn:Ao n = true ∧ Ao m = true ∧ Ao p = true ∧ Ao q = true ∧ (AJ q λi=>Ao (ln i)) = true:=by simpa [Cm,Al] using hn
  obtain ⟨n1,n2,n3,n4,n5⟩:=hn
  have hA:Bm [v1,.str nm] [.agg [iV a,.sl 6 n (λi=>eV (g i)),.sl 5 m (λi=>evV (x i)),iV t,iV kk,.sl 1 p (λi=>iV (r i)),.sl 1 q (λu=>.sl 1 (ln u) (λi=>iV (co u i)))],.str nm]:=λS w cs hv=>by
   obtain ⟨c,l,rfl,q1,q2⟩:=hv
   exact ⟨c,_,rfl,a1 S w c q1,q2⟩
  have hc0:Bg Tryz.prog ⟨Ak Ni,Gl⟩:=(AK Acw [] (G:=Gl)).1
  cases hr:ieq (rtS ⟨a,n,g,m,x,t,kk,p,r,q,λu=>(ln u,co u)⟩) 0 with
  | false =>
   rw [hr] at h
   have:=Ac (show (T.leaf _).sem = _ from h)
   simp only [Prod.mk.injEq] at this
   obtain ⟨rfl,rfl⟩:=this
   exact ⟨_,⟨Ak Ni,noL,Gl⟩,_,hA,rfl,hc0,HS,w6a noL a n g m x t kk p r q ln co nm (Fh () ()) hf n1 n2 n3 n4 n5 hr,A0.refl _⟩
  | true =>
   rw [hr] at h
   have h:(T.br (Lx nm) (.br (Un ⟨a,n,g,m,x,t,kk,p,r,q,λu=>(ln u,co u)⟩) (.leaf (.tup [Aek ⟨a,n,g,m,x,t,kk,p,r,q,λu=>(ln u,co u)⟩ nm,iV 0],Ael ⟨a,n,g,m,x,t,kk,p,r,q,λu=>(ln u,co u)⟩)) .fail) (.leaf (.tup [UW,iV 130],Ra))).sem = some (v,h'):=h
   cases ht:Lx nm with
   | false =>
    rw [ht] at h
    have:=Ac (show (T.leaf _).sem = _ from h)
    simp only [Prod.mk.injEq] at this
    obtain ⟨rfl,rfl⟩:=this
    exact ⟨_,⟨Ak Ni,noL,Gl⟩,_,hA,rfl,hc0,HS,w6b noL a n g m x t kk p r q ln co nm (Fh () ()) hf n1 n2 n3 n4 n5 hr ht,A0.refl _⟩
   | true =>
    rw [ht] at h
    obtain ⟨hg,h⟩:=Ad (show (T.br _ _ .fail).sem = _ from h)
    have:=Ac h
    simp only [Prod.mk.injEq] at this
    obtain ⟨rfl,rfl⟩:=this
    simp only [Un,Bool.and_eq_true] at hg
    obtain ⟨g1,g2,g3,g4,g5⟩:=hg
    obtain ⟨k,hk⟩:∃ k:Nat,kk = ofNat k:=⟨toN kk,by simpa [ieq] using g1⟩
    subst hk
    have g2:k <= 1023:=Nat.le_of_ble_eq_true g2
    let r6:=AdP a n g m x t k p r q ln co nm k (Do n λi=>Bc n g i) (lwX a n g m x t (ofNat k) p r q ln co) (cwX a n g m x t (ofNat k) p r q ln co) (yyX a n g m x t (ofNat k) p r q ln co) (Bc n g)
     (MD (DS m x (yyX a n g m x t (ofNat k) p r q ln co) q ln)) (F9 m x (yyX a n g m x t (ofNat k) p r q ln co) q ln) (RI m x (yyX a n g m x t (ofNat k) p r q ln co) q ln)
     (Pd (DS m x (yyX a n g m x t (ofNat k) p r q ln co) q ln)) (DG (DS m x (yyX a n g m x t (ofNat k) p r q ln co) q ln) (F9 m x (yyX a n g m x t (ofNat k) p r q ln co) q ln)).th (DG (DS m x (yyX a n g m x t (ofNat k) p r q ln co) q ln) (F9 m x (yyX a n g m x t (ofNat k) p r q ln co) q ln)).rg (DG (DS m x (yyX a n g m x t (ofNat k) p r q ln co) q ln) (F9 m x (yyX a n g m x t (ofNat k) p r q ln co) q ln)).lc
     (Pe (DS m x (yyX a n g m x t (ofNat k) p r q ln co) q ln) (RI m x (yyX a n g m x t (ofNat k) p r q ln co) q ln))
    have hrun:∀ M,LRun ⟨Ak Ni,Gl⟩ (TK M) (Abi a n g m x t k p r q ln co nm) r6:=λM=>by
     refine .weak (HA (i:=7) (n:=0) (g':=Ju) rfl λ_ hq=>absurd hq (Nat.not_lt_zero _)) ?_
     rw [AdO]
     exact AjO a n g m x t k p r q ln co nm _ _ _ _ _ _ _ _ _ _ _ _ _ M g2 k 0 _ (by omega)
    exact ⟨_,⟨Ak Ni,_,Gl⟩,_,hA,rfl,hc0,UT (k:=0) (r:=r6) HS,w6o noL _ a n g m x t k p r q ln co nm k _ _ _ _ _ _ _ _ _ _ _ _ _ (Fh () ()) hf n1 n2 n3 n4 n5 hr ht g3 g4 (by simp [AR]) (DI _) (DI _) g5 (TN _ _ _) (Oi (hrun _)),A0.refl _⟩
 ·cases h
end Go.Proofs.YthlojajaenfidaaGreatDoor.Em
namespace Go.Proofs.YthlojajaenfidaaGreatDoor.Sh
open Go.Sy Ed
set_option maxHeartbeats 1000000
set_option maxRecDepth 4000
end Go.Proofs.YthlojajaenfidaaGreatDoor.Sh
namespace Go.Proofs.YthlojajaenfidaaGreatDoor.Sh
open Go.Sy Ed
set_option maxHeartbeats 1000000
set_option maxRecDepth 4000
end Go.Proofs.YthlojajaenfidaaGreatDoor.Sh
namespace Go.Proofs.YthlojajaenfidaaGreatDoor.Sh
open Go.Sy Ed
set_option maxHeartbeats 1000000
set_option maxRecDepth 4000
end Go.Proofs.YthlojajaenfidaaGreatDoor.Sh
namespace Go.Proofs.YthlojajaenfidaaGreatDoor.Sh
open Go.Sy Ed
set_option maxHeartbeats 1000000
set_option maxRecDepth 4000
end Go.Proofs.YthlojajaenfidaaGreatDoor.Sh
