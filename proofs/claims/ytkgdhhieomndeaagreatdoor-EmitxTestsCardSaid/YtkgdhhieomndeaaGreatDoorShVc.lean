/-
  Layer 11: the code and the registers of a shape (functions 74, 42, 45), the shape of a cycle (41). No conditions.
-/
import Derived.Test.YtkgdhhieomndeaaGreatDoorShV
import Derived.Test.YtkgdhhieomndeaaGreatDoorShS
import Derived.Test.YtkgdhhieomndeaaGreatDoorCyJ
import Derived.Test.YtkgdhhieomndeaaGreatDoorShT
namespace Go.Proofs.YtkgdhhieomndeaaGreatDoor.Sh
open Go.Sy Ed
set_option maxHeartbeats 1000000
set_option maxRecDepth 4000
def BA (a:Int) (n:Nat) (g:Nat->E6) (m:Nat) (x:Nat->Ev5) (t k:Int) (p:Nat) (r:Nat->Int) (q:Nat) (ln:Nat->Nat) (co:Nat->Nat->Int):Int:=bif ieq (By a n g m x t k p r q ln co) 0 then (bif ieq a 1 then 0 else 5) else 70
def Rh:List V->AR
 | [v]=>apS v λs=>.br (BF s.ne) (.br (BM s) (.leaf (iV (BA s.arch s.ne s.E s.nx s.X s.tt s.kk s.nr s.R s.nc (λi=>(s.C i).1) (λi=>(s.C i).2)),[])) .fail) .fail
 | _=>.fail
def lwX (a:Int) (n:Nat) (g:Nat->E6) (m:Nat) (x:Nat->Ev5) (t k:Int) (p:Nat) (r:Nat->Int) (q:Nat) (ln:Nat->Nat) (co:Nat->Nat->Int):Nat->Nat:=(wsS ⟨a,n,g,m,x,t,k,p,r,q,λu=>(ln u,co u)⟩).lw
def cwX (a:Int) (n:Nat) (g:Nat->E6) (m:Nat) (x:Nat->Ev5) (t k:Int) (p:Nat) (r:Nat->Int) (q:Nat) (ln:Nat->Nat) (co:Nat->Nat->Int):Nat->Nat->In4:=(wsS ⟨a,n,g,m,x,t,k,p,r,q,λu=>(ln u,co u)⟩).cw
def yyX (a:Int) (n:Nat) (g:Nat->E6) (m:Nat) (x:Nat->Ev5) (t k:Int) (p:Nat) (r:Nat->Int) (q:Nat) (ln:Nat->Nat) (co:Nat->Nat->Int):Nat->Int:=(wsS ⟨a,n,g,m,x,t,k,p,r,q,λu=>(ln u,co u)⟩).y
def wrX (a:Int) (n:Nat) (g:Nat->E6) (m:Nat) (x:Nat->Ev5) (t k:Int) (p:Nat) (r:Nat->Int) (q:Nat) (ln:Nat->Nat) (co:Nat->Nat->Int):Bool:=wrB ⟨a,n,g,m,x,t,k,p,r,q,λu=>(ln u,co u)⟩
def Lt:List V->AR
 | [v]=>apS v λs=>.br (wrX s.arch s.ne s.E s.nx s.X s.tt s.kk s.nr s.R s.nc (λi=>(s.C i).1) (λi=>(s.C i).2)) (.leaf (.tup [.jref 0,.ref 1],[.jag ⟨49,1,toN s.tt,λ_=>.und,0,51,8,λ_=>true,lwX s.arch s.ne s.E s.nx s.X s.tt s.kk s.nr s.R s.nc (λi=>(s.C i).1) (λi=>(s.C i).2),λu j=>inV (cwX s.arch s.ne s.E s.nx s.X s.tt s.kk s.nr s.R s.nc (λi=>(s.C i).1) (λi=>(s.C i).2) u j)⟩,.row 3 1 s.nx (λi=>iV (yyX s.arch s.ne s.E s.nx s.X s.tt s.kk s.nr s.R s.nc (λi=>(s.C i).1) (λi=>(s.C i).2) i))])) .fail
 | _=>.fail
theorem Amc:Ax Tryz.prog Gl 16 Lt:=p75
def codeT:List V->AR
 | [v]=>apS v λs=>.br (BF s.ne) (.br (BM s) (.br (ieq (BA s.arch s.ne s.E s.nx s.X s.tt s.kk s.nr s.R s.nc (λi=>(s.C i).1) (λi=>(s.C i).2)) 0) (.br (wrX s.arch s.ne s.E s.nx s.X s.tt s.kk s.nr s.R s.nc (λi=>(s.C i).1) (λi=>(s.C i).2)) (.leaf (.tup [.jref 0,iV 0],[.jag ⟨49,1,toN s.tt,λ_=>.und,0,51,8,λ_=>true,lwX s.arch s.ne s.E s.nx s.X s.tt s.kk s.nr s.R s.nc (λi=>(s.C i).1) (λi=>(s.C i).2),λu j=>inV (cwX s.arch s.ne s.E s.nx s.X s.tt s.kk s.nr s.R s.nc (λi=>(s.C i).1) (λi=>(s.C i).2) u j)⟩])) .fail)
  (.leaf (.tup [.jref 0,iV (BA s.arch s.ne s.E s.nx s.X s.tt s.kk s.nr s.R s.nc (λi=>(s.C i).1) (λi=>(s.C i).2))],[.jag ⟨49,1,0,λ_=>.und,0,51,8,λ_=>true,λ_=>0,λ_ _=>.und⟩]))) .fail) .fail
 | _=>.fail
def AaD:List V->AR
 | [v]=>apS v λs=>.br (BF s.ne) (.br (BM s) (.br (ieq (BA s.arch s.ne s.E s.nx s.X s.tt s.kk s.nr s.R s.nc (λi=>(s.C i).1) (λi=>(s.C i).2)) 0) (.br (wrX s.arch s.ne s.E s.nx s.X s.tt s.kk s.nr s.R s.nc (λi=>(s.C i).1) (λi=>(s.C i).2)) (.leaf (.tup [.ref 0,iV 0],[.row 3 1 s.nx λi=>iV (yyX s.arch s.ne s.E s.nx s.X s.tt s.kk s.nr s.R s.nc (λi=>(s.C i).1) (λi=>(s.C i).2) i)])) .fail)
  (.leaf (.tup [.ref 0,iV (BA s.arch s.ne s.E s.nx s.X s.tt s.kk s.nr s.R s.nc (λi=>(s.C i).1) (λi=>(s.C i).2))],[.row 3 1 0 λ_=>.und]))) .fail) .fail
 | _=>.fail
noncomputable def SB:AP:=(35,Gt)::[]
theorem ZP:Av Tryz.prog Gl SB:=.cons AaP .nil
noncomputable def Ah2:AP:=(14,Rh)::(16,Lt)::[]
noncomputable def tb41:AP:=(33,ofT)::[]
theorem tb41_ok:Av Tryz.prog Gl tb41:=.cons p15 .nil
section
variable (L:LT) (a:Int) (n:Nat) (g:Nat->E6) (m:Nat) (x:Nat->Ev5) (t k:Int) (p:Nat) (r:Nat->Int) (q:Nat) (ln:Nat->Nat) (co:Nat->Nat->Int)
include L a n g m x t k p r q ln co
theorem Anz (h21:AB q (λi=>AB (ln i) (λ_=>true))=true) (h22:BF n=true) (h23:Aj n=true) (h24:Aj m=true) (h25:Aj p=true) (h26:Aj q=true) (h27:AB q (λi=>Aj (ln i))=true) (h28:ieq (By a n g m x t k p r q ln (λi i_1=>co i i_1)) 0=false):(Az (Ak tab ⟨Ap SB,L,Gl⟩ Tryz.f14 [.agg (shL a n g m x t k p r q ln co)] [])).sem=some ((iV 70),[]):=by
 exact Ab (ks:=[kL n,kL m,kL p,kn h21,kn h22,kA (kn h23) (kA (kn h24) (kA (kn h25) (kA (kn h26) (kn h27)))),kN (kn h28)]) (by kernel_rfl)
theorem An0 (h22:AB q (λi=>AB (ln i) (λ_=>true))=true) (h23:BF n=true) (h24:Aj n=true) (h25:Aj m=true) (h26:Aj p=true) (h27:Aj q=true) (h28:AB q (λi=>Aj (ln i))=true) (h29:ieq (By a n g m x t k p r q ln (λi i_1=>co i i_1)) 0=true) (h0:ieq a 1=false):(Az (Ak tab ⟨Ap SB,L,Gl⟩ Tryz.f14 [.agg (shL a n g m x t k p r q ln co)] [])).sem=some ((iV 5),[]):=by
 exact Ab (ks:=[kL n,kL m,kL p,kn h22,kn h23,kA (kn h24) (kA (kn h25) (kA (kn h26) (kA (kn h27) (kn h28)))),kN (kn h29),kN (kn h0)]) (by kernel_rfl)
theorem Anx (h22:AB q (λi=>AB (ln i) (λ_=>true))=true) (h23:BF n=true) (h24:Aj n=true) (h25:Aj m=true) (h26:Aj p=true) (h27:Aj q=true) (h28:AB q (λi=>Aj (ln i))=true) (h29:ieq (By a n g m x t k p r q ln (λi i_1=>co i i_1)) 0=true) (h0:ieq a 1=true):(Az (Ak tab ⟨Ap SB,L,Gl⟩ Tryz.f14 [.agg (shL a n g m x t k p r q ln co)] [])).sem=some ((iV 0),[]):=by
 exact Ab (ks:=[kL n,kL m,kL p,kn h22,kn h23,kA (kn h24) (kA (kn h25) (kA (kn h26) (kA (kn h27) (kn h28)))),kN (kn h29),kN (kn h0)]) (by kernel_rfl)
end
theorem p74:Ax Tryz.prog Gl 14 Rh:=by
 refine Am A8 mixed Tryz.func14 (by kernel_rfl) (by kernel_rfl) λvs v h' h=>?_;unfold Rh at h;split at h
 ·rename_i v1
  obtain ⟨s,a1,h⟩:=apS_some h;obtain ⟨hf,h⟩:=Ad h;obtain ⟨hn,h⟩:=Ad h;obtain ⟨a,n,g,m,x,t,k,p,r,q,C⟩:=s;obtain ⟨ln,co,hC⟩:∃ (ln:Nat->Nat) (co:Nat->Nat->Int),C=λu=>(ln u,co u):=⟨λu=>(C u).1,λu=>(C u).2,rfl⟩;subst hC;have hA:Bf [v1] [.agg (shL a n g m x t k p r q ln co)]:=λS w cs hv=>by
   obtain ⟨c,l,rfl,q1,q2⟩:=hv;exact ⟨c,_,rfl,a1 S w c q1,q2⟩
  have hn:Aj n=true∧Aj m=true∧Aj p=true∧Aj q=true∧(AB q λi=>Aj (ln i))=true:=by simpa [BM,Al] using hn
  obtain ⟨n1,n2,n3,n4,n5⟩:=hn;have:=Ac h;simp only [Prod.mk.injEq] at this;obtain ⟨rfl,rfl⟩:=this;have hx:=AI ZP [] (G:=Gl);refine ⟨_,AC Gl SB [],_,hA,rfl,hx.1,hx.2,?_,Aw.refl _⟩;show _=some (iV (BA a n g m x t k p r q ln co),_);unfold BA;cases hc:ieq (By a n g m x t k p r q ln co) 0 with
  | false=>exact Anz _ a n g m x t k p r q ln co (CG () ()) hf n1 n2 n3 n4 n5 hc
  | true =>
   cases ha:ieq a 1 with
   | false=>exact An0 _ a n g m x t k p r q ln co (CG () ()) hf n1 n2 n3 n4 n5 hc ha
   | true=>exact Anx _ a n g m x t k p r q ln co (CG () ()) hf n1 n2 n3 n4 n5 hc ha
 ·cases h
theorem Ad6:Av Tryz.prog Gl Ah2:=.cons p74 <| .cons Amc .nil
theorem p42:Ax Tryz.prog Gl 34 codeT:=by
 refine Am A8 mixed Tryz.func34 (by kernel_rfl) (by kernel_rfl) λvs v h' h=>?_;unfold codeT at h;split at h
 ·rename_i v1
  obtain ⟨s,a1,h⟩:=apS_some h;obtain ⟨hf,h⟩:=Ad h;obtain ⟨hn,h⟩:=Ad h;obtain ⟨a,n,g,m,x,t,k,p,r,q,C⟩:=s;obtain ⟨ln,co,hC⟩:∃ (ln:Nat->Nat) (co:Nat->Nat->Int),C=λu=>(ln u,co u):=⟨λu=>(C u).1,λu=>(C u).2,rfl⟩;subst hC;have hA:Bf [v1] [.agg (shL a n g m x t k p r q ln co)]:=λS w cs hv=>by
   obtain ⟨c,l,rfl,q1,q2⟩:=hv;exact ⟨c,_,rfl,a1 S w c q1,q2⟩
  have hn:Aj n=true∧Aj m=true∧Aj p=true∧Aj q=true∧(AB q λi=>Aj (ln i))=true:=by simpa [BM,Al] using hn
  obtain ⟨n1,n2,n3,n4,n5⟩:=hn;have hx:=AI Ad6 [] (G:=Gl);cases hc:ieq (BA a n g m x t k p r q ln co) 0 with
  | false =>simp only [hc,T.sem,sel,cond_false,Option.some.injEq,Prod.mk.injEq] at h;obtain ⟨rfl,rfl⟩:=h;exact ⟨_,AC Gl Ah2 [],_,hA,rfl,hx.1,hx.2,Ab (ks:=[kL n,kL m,kL p,kn (CG (q:=q) (ln:=ln) () ()),kn hf,kA (kn n1) (kA (kn n2) (kA (kn n3) (kA (kn n4) (kn n5)))),kN (kn hc)]) (by kernel_rfl),Aw.refl _⟩
  | true =>simp only [hc] at h;obtain ⟨hw,h⟩:=Ad h;have:=Ac h;simp only [Prod.mk.injEq] at this;obtain ⟨rfl,rfl⟩:=this;exact ⟨_,AC Gl Ah2 [],_,hA,rfl,hx.1,hx.2,Ab (ks:=[kL n,kL m,kL p,kn (CG (q:=q) (ln:=ln) () ()),kn hf,kA (kn n1) (kA (kn n2) (kA (kn n3) (kA (kn n4) (kn n5)))),kN (kn hc),kL n,kL m,kL p,kn (CG (q:=q) (ln:=ln) () ()),kn hw]) (by kernel_rfl),Aw.refl _⟩
 ·cases h
end Go.Proofs.YtkgdhhieomndeaaGreatDoor.Sh
namespace Go.Proofs.YtkgdhhieomndeaaGreatDoor.Em
open Go.Sy Go Go.Proofs.YtkgdhhieomndeaaGreatDoor.Ed Go.Proofs.YtkgdhhieomndeaaGreatDoor.Sh
open Int (ofNat)
set_option maxRecDepth 100000
set_option maxHeartbeats 1000000
def Di (i:Nat):V:=.agg [iV (-1),iV 0,.str (B1 (ofNat i)),.str [],iV 0]
def DR (m:Nat) (x:Nat->Ev5) (rg:Nat->Int) (q:Nat) (ln:Nat->Nat):Nat:=(askL m x rg q ln).length
def FQ (m:Nat) (x:Nat->Ev5) (rg:Nat->Int) (q:Nat) (ln:Nat->Nat):Nat->Tg:=gT (askL m x rg q ln)
def So (m:Nat) (x:Nat->Ev5) (rg:Nat->Int) (q:Nat) (ln:Nat->Nat):Nat->Int:=gW (askL m x rg q ln)
noncomputable def N7:AP:=(14,Rh)::(15,Yi)::(16,Lt)::(17,H7)::(18,Rq)::(19,AjA)::(20,Ov)::[]
theorem Adv:Av Tryz.prog Gl N7:=.cons p74 <| .cons p18 <| .cons Amc <| .cons p65 <| .cons Ed.p63 <| .cons p21 <| .cons p37 .nil
def rtS (s:Sh7):Int:=BA s.arch s.ne s.E s.nx s.X s.tt s.kk s.nr s.R s.nc (λi=>(s.C i).1) (λi=>(s.C i).2)
def axS (s:Sh7):List (Tg×Int):=askL s.nx s.X (wsS s).y s.nc λi=>(s.C i).1
def Yn (s:Sh7):Bool:=ieq s.kk (ofNat (toN s.kk)) && (Nat.ble (toN s.kk) 1023 && (wrB s && (Co s.ne s.E && Uw s s.nx (wsS s).y)))
def P6 (s:Sh7) (nm:List UInt8):V:=.agg [iV s.arch,.str nm,.str (CY s.ne λi=>AV s.ne s.E i),.ref 0,.jref 1,iV 1,iV (Pg (axS s).length),iV (Dz (axS s).length (gT (axS s))).th,iV (Dz (axS s).length (gT (axS s))).rg,.str (Dz (axS s).length (gT (axS s))).lc,iV (Ph (axS s).length (gW (axS s))),.ref 2]
def S7 (s:Sh7):List Blk:=[.row 55 5 (toN s.kk) Di,.jag ⟨49,1,toN s.tt,λ_=>.und,0,51,8,λ_=>true,(wsS s).lw,λu j=>inV ((wsS s).cw u j)⟩,.row 35 6 (I5 (axS s).length) (BE (gT (axS s)) (gW (axS s)))]
def Ob:V:=.agg [iV 0,.str [],.str [],.ref 0,.jref 1,iV 0,iV 0,iV 0,iV 0,.str [],iV 0,.nilS]
def Kr:List Blk:=[.row 55 5 0 Aa,.jag ⟨49,1,0,λ_=>.und,0,51,8,λ_=>true,λ_=>0,λ_ _=>.und⟩]
def ZJ:List V->AR
 | [v,.str nm]=>apS v λs=>.br (BF s.ne) (.br (BM s) (.br (ieq (rtS s) 0) (.br (Kc nm) (.br (Yn s) (.leaf (.tup [P6 s nm,iV 0],S7 s)) .fail) (.leaf (.tup [Ob,iV 130],Kr))) (.leaf (.tup [Ob,iV (rtS s)],Kr))) .fail) .fail
 | _=>.fail
section
variable (L:LT) (a:Int) (n:Nat) (g:Nat->E6) (m:Nat) (x:Nat->Ev5) (t k:Int) (p:Nat) (r:Nat->Int) (q:Nat) (ln:Nat->Nat) (co:Nat->Nat->Int) (nm:List UInt8)
include L a n g m x t k p r q ln co nm
theorem w6a (h35:AB q (λi=>AB (ln i) (λ_=>true))=true) (h36:BF n=true) (h37:Aj n=true) (h38:Aj m=true) (h39:Aj p=true) (h40:Aj q=true) (h41:AB q (λi=>Aj (ln i))=true) (h42:ieq (BA a n g m x t k p r q ln (λi i_1=>co i i_1)) 0=false):(Az (Ak tab ⟨Ap N7,L,Gl⟩ Tryz.f6 [.agg [iV a,.sl 6 n λi=>eV (g i),.sl 5 m λi=>evV (x i),iV t,iV k,.sl 1 p λi=>iV (r i),.sl 1 q λi=>.sl 1 (ln i) λj=>iV (co i j)],.str nm] [])).sem=some ((.tup [.agg [iV 0,.str [],.str [],.ref 0,.jref 1,iV 0,iV 0,iV 0,iV 0,.str [],iV 0,.nilS],iV (BA a n g m x t k p r q ln (λi i_1=>co i i_1))]),[.row 55 5 0 Aa,.jag (Jag.mk 49 1 0 Aa 0 51 8 (λ_=>true) (λ_=>0) (λ_ _=>.und))]):=by
 exact Ab (ks:=[kL n,kL m,kL p,kn h35,kn h36,kA (kn h37) (kA (kn h38) (kA (kn h39) (kA (kn h40) (kn h41)))),kN (kn h42)]) (by kernel_rfl)
theorem w6b (h36:AB q (λi=>AB (ln i) (λ_=>true))=true) (h37:BF n=true) (h38:Aj n=true) (h39:Aj m=true) (h40:Aj p=true) (h41:Aj q=true) (h42:AB q (λi=>Aj (ln i))=true) (h43:ieq (BA a n g m x t k p r q ln (λi i_1=>co i i_1)) 0=true) (h1:Kc nm=false):(Az (Ak tab ⟨Ap N7,L,Gl⟩ Tryz.f6 [.agg [iV a,.sl 6 n λi=>eV (g i),.sl 5 m λi=>evV (x i),iV t,iV k,.sl 1 p λi=>iV (r i),.sl 1 q λi=>.sl 1 (ln i) λj=>iV (co i j)],.str nm] [])).sem=some ((.tup [.agg [iV 0,.str [],.str [],.ref 0,.jref 1,iV 0,iV 0,iV 0,iV 0,.str [],iV 0,.nilS],iV 130]),[.row 55 5 0 Aa,.jag (Jag.mk 49 1 0 Aa 0 51 8 (λ_=>true) (λ_=>0) (λ_ _=>.und))]):=by
 exact Ab (ks:=[kL n,kL m,kL p,kn h36,kn h37,kA (kn h38) (kA (kn h39) (kA (kn h40) (kA (kn h41) (kn h42)))),kN (kn h43),kN (kn h1)]) (by kernel_rfl)
end
def ent6 (a:Int) (n:Nat) (g:Nat->E6) (m:Nat) (x:Nat->Ev5) (t:Int) (k:Nat) (p:Nat) (r:Nat->Int) (q:Nat) (ln:Nat->Nat) (co:Nat->Nat->Int) (nm:List UInt8) :St:=⟨jsV 71 0 (λ_=>A9) [(0,.agg [iV a,.sl 6 n (λi=>eV (g i)),.sl 5 m (λi=>.agg [iV (x i).th,iV (x i).pl,iV (x i).dir,iV (x i).loc,iV (x i).val]),iV t,nV k,.sl 1 p (λi=>iV (r i)),.sl 1 q (λi=>.sl 1 (ln i) (λj=>iV (co i j)))]),(1,.str nm),(2,.ptr 0 0),(4,.ptr 1 0),(5,iV 0),(6,iV (BA a n g m x t (ofNat k) p r q ln (λi i_1=>co i i_1))),(7,.jref 2),(8,.ref 3),(9,.ref 4),(10,iV 0),(11,.str (CY n (λi=>AV n g i))),(12,iV (Ib n (λi=>AV n g i))),(13,.ptr 6 0),(17,.agg [iV a,.sl 6 n (λi=>eV (g i)),.sl 5 m (λi=>.agg [iV (x i).th,iV (x i).pl,iV (x i).dir,iV (x i).loc,iV (x i).val]),iV t,nV k,.sl 1 p (λi=>iV (r i)),.sl 1 q (λi=>.sl 1 (ln i) (λj=>iV (co i j)))]),(18,iV (BA a n g m x t (ofNat k) p r q ln (λi i_1=>co i i_1))),(19,iV (BA a n g m x t (ofNat k) p r q ln (λi i_1=>co i i_1))),(20,bV (A6 (ieq (BA a n g m x t (ofNat k) p r q ln (λi i_1=>co i i_1)) 0))),(23,.str nm),(24,bV (Kc nm)),(25,bV (A6 (Kc nm))),(27,.tup [.jref 2,.ref 3]),(28,.agg [iV a,.sl 6 n (λi=>eV (g i)),.sl 5 m (λi=>.agg [iV (x i).th,iV (x i).pl,iV (x i).dir,iV (x i).loc,iV (x i).val]),iV t,nV k,.sl 1 p (λi=>iV (r i)),.sl 1 q (λi=>.sl 1 (ln i) (λj=>iV (co i j)))]),(29,.tup [.jref 2,.ref 3]),(30,.jref 2),(31,.ref 3),(32,.tup [.ref 4,iV 0]),(33,.ptr 0 1),(34,.sl 6 n (λi=>eV (g i))),(35,.tup [.ref 4,iV 0]),(36,.ref 4),(37,iV 0),(38,.tup [.str (CY n (λi=>AV n g i)),iV (Ib n (λi=>AV n g i))]),(39,.ref 4),(40,.tup [.str (CY n (λi=>AV n g i)),iV (Ib n (λi=>AV n g i))]),(41,.str (CY n (λi=>AV n g i))),(42,iV (Ib n (λi=>AV n g i))),(43,.ptr 0 0),(44,iV a),(45,.str nm),(46,.str (CY n (λi=>AV n g i))),(47,.jref 2),(48,.agg [iV a,.sl 6 n (λi=>eV (g i)),.sl 5 m (λi=>.agg [iV (x i).th,iV (x i).pl,iV (x i).dir,iV (x i).loc,iV (x i).val]),iV t,nV k,.sl 1 p (λi=>iV (r i)),.sl 1 q (λi=>.sl 1 (ln i) (λj=>iV (co i j)))]),(49,.ref 3),(50,.agg [iV 1,iV (Pg (DR m x (yyX a n g m x t (ofNat k) p r q ln (λi i_1=>co i i_1)) q ln)),iV (Dz (DR m x (yyX a n g m x t (ofNat k) p r q ln (λi i_1=>co i i_1)) q ln) (FQ m x (yyX a n g m x t (ofNat k) p r q ln (λi i_1=>co i i_1)) q ln)).th,iV (Dz (DR m x (yyX a n g m x t (ofNat k) p r q ln (λi i_1=>co i i_1)) q ln) (FQ m x (yyX a n g m x t (ofNat k) p r q ln (λi i_1=>co i i_1)) q ln)).rg,.str (Dz (DR m x (yyX a n g m x t (ofNat k) p r q ln (λi i_1=>co i i_1)) q ln) (FQ m x (yyX a n g m x t (ofNat k) p r q ln (λi i_1=>co i i_1)) q ln)).lc,iV (Ph (DR m x (yyX a n g m x t (ofNat k) p r q ln (λi i_1=>co i i_1)) q ln) (So m x (yyX a n g m x t (ofNat k) p r q ln (λi i_1=>co i i_1)) q ln)),.ref 5]),(51,.agg [iV a,.str nm,.str (CY n (λi=>AV n g i)),.nilS,.jref 2,iV 1,iV (Pg (DR m x (yyX a n g m x t (ofNat k) p r q ln (λi i_1=>co i i_1)) q ln)),iV (Dz (DR m x (yyX a n g m x t (ofNat k) p r q ln (λi i_1=>co i i_1)) q ln) (FQ m x (yyX a n g m x t (ofNat k) p r q ln (λi i_1=>co i i_1)) q ln)).th,iV (Dz (DR m x (yyX a n g m x t (ofNat k) p r q ln (λi i_1=>co i i_1)) q ln) (FQ m x (yyX a n g m x t (ofNat k) p r q ln (λi i_1=>co i i_1)) q ln)).rg,.str (Dz (DR m x (yyX a n g m x t (ofNat k) p r q ln (λi i_1=>co i i_1)) q ln) (FQ m x (yyX a n g m x t (ofNat k) p r q ln (λi i_1=>co i i_1)) q ln)).lc,iV (Ph (DR m x (yyX a n g m x t (ofNat k) p r q ln (λi i_1=>co i i_1)) q ln) (So m x (yyX a n g m x t (ofNat k) p r q ln (λi i_1=>co i i_1)) q ln)),.ref 5]),(52,.ptr 0 4),(53,nV k),(54,iV 0)],[.cells [iV a,.sl 6 n (λi=>eV (g i)),.sl 5 m (λi=>.agg [iV (x i).th,iV (x i).pl,iV (x i).dir,iV (x i).loc,iV (x i).val]),iV t,nV k,.sl 1 p (λi=>iV (r i)),.sl 1 q (λi=>.sl 1 (ln i) (λj=>iV (co i j)))],.cells [iV 0,.str [],.str [],.nilS,.nilS,iV 0,iV 0,iV 0,iV 0,.str [],iV 0,.nilS],.jag (Jag.mk 49 1 (toN t) Aa 0 51 8 (λ_=>true) (lwX a n g m x t (ofNat k) p r q ln (λi i_1=>co i i_1)) (λu j=>.agg [iV (cwX a n g m x t (ofNat k) p r q ln (λi i_1=>co i i_1) u j).op,iV (cwX a n g m x t (ofNat k) p r q ln (λi i_1=>co i i_1) u j).d,iV 0,iV 0,iV (cwX a n g m x t (ofNat k) p r q ln (λi i_1=>co i i_1) u j).imm,.str (cwX a n g m x t (ofNat k) p r q ln (λi i_1=>co i i_1) u j).loc,.str [],iV 0])),.row 3 1 m (λi=>iV (yyX a n g m x t (ofNat k) p r q ln (λi i_1=>co i i_1) i)),.row 92 6 n (λi=>eV (AV n g i)),.row 35 6 (I5 (DR m x (yyX a n g m x t (ofNat k) p r q ln (λi i_1=>co i i_1)) q ln)) (λi=>.agg [iV 2,iV (FQ m x (yyX a n g m x t (ofNat k) p r q ln (λi i_1=>co i i_1)) q ln i).th,iV (FQ m x (yyX a n g m x t (ofNat k) p r q ln (λi i_1=>co i i_1)) q ln i).rg,.str (FQ m x (yyX a n g m x t (ofNat k) p r q ln (λi i_1=>co i i_1)) q ln i).lc,iV (So m x (yyX a n g m x t (ofNat k) p r q ln (λi i_1=>co i i_1)) q ln i),.nilS]),.cells [iV a,.str nm,.str (CY n (λi=>AV n g i)),.ref 7,.jref 2,iV 1,iV (Pg (DR m x (yyX a n g m x t (ofNat k) p r q ln (λi i_1=>co i i_1)) q ln)),iV (Dz (DR m x (yyX a n g m x t (ofNat k) p r q ln (λi i_1=>co i i_1)) q ln) (FQ m x (yyX a n g m x t (ofNat k) p r q ln (λi i_1=>co i i_1)) q ln)).th,iV (Dz (DR m x (yyX a n g m x t (ofNat k) p r q ln (λi i_1=>co i i_1)) q ln) (FQ m x (yyX a n g m x t (ofNat k) p r q ln (λi i_1=>co i i_1)) q ln)).rg,.str (Dz (DR m x (yyX a n g m x t (ofNat k) p r q ln (λi i_1=>co i i_1)) q ln) (FQ m x (yyX a n g m x t (ofNat k) p r q ln (λi i_1=>co i i_1)) q ln)).lc,iV (Ph (DR m x (yyX a n g m x t (ofNat k) p r q ln (λi i_1=>co i i_1)) q ln) (So m x (yyX a n g m x t (ofNat k) p r q ln (λi i_1=>co i i_1)) q ln)),.ref 5],.row 55 5 0 Aa]⟩
def lp6 (a:Int) (n:Nat) (g:Nat->E6) (m:Nat) (x:Nat->Ev5) (t:Int) (k:Nat) (p:Nat) (r:Nat->Int) (q:Nat) (ln:Nat->Nat) (co:Nat->Nat->Int) (nm:List UInt8):Lp:=⟨bmK 71 0 [4,13,53,54],8,bmK 71 0 [4,13],8,0⟩
def st6 (a:Int) (n:Nat) (g:Nat->E6) (m:Nat) (x:Nat->Ev5) (t:Int) (k:Nat) (p:Nat) (r:Nat->Int) (q:Nat) (ln:Nat->Nat) (co:Nat->Nat->Int) (nm:List UInt8) (b:Nat) (tx:List UInt8) (lw:Nat->Nat) (cw:Nat->Nat->In4) (y:Nat->Int) (cf:Nat->E6) (kW:Nat) (kX:Nat->Tg) (kf:Nat->Int) (k1 k2 k3:Int) (k4:List UInt8) (k5:Int) (j:Nat->V):St:=⟨jsV 71 0 j [(4,.ptr 1 0),(13,.ptr 6 0),(53,nV k),(54,nV b)],[.cells [iV a,.sl 6 n λi=>eV (g i),.sl 5 m λi=>evV (x i),iV t,nV k,.sl 1 p λi=>iV (r i),.sl 1 q λi=>.sl 1 (ln i) λj=>iV (co i j)],.cells [iV 0,.str [],.str [],.nilS,.nilS,iV 0,iV 0,iV 0,iV 0,.str [],iV 0,.nilS],.jag ⟨49,1,toN t,λ_=>.und,0,51,8,λ_=>true,lw,λu j=>inV (cw u j)⟩,.row 3 1 m (λi=>iV (y i)),.row 92 6 n (λi=>eV (cf i)),.row 35 6 kW (λi=>BE kX kf i),.cells [iV a,.str nm,.str tx,.ref 7,.jref 2,iV 1,iV k1,iV k2,iV k3,.str k4,iV k5,.ref 5],.row 55 5 b (λi=>Di i)]⟩
def en6e (a:Int) (n:Nat) (g:Nat->E6) (m:Nat) (x:Nat->Ev5) (t:Int) (k:Nat) (p:Nat) (r:Nat->Int) (q:Nat) (ln:Nat->Nat) (co:Nat->Nat->Int) (nm:List UInt8) (b:Nat) (tx:List UInt8) (lw:Nat->Nat) (cw:Nat->Nat->In4) (y:Nat->Int) (cf:Nat->E6) (kW:Nat) (kX:Nat->Tg) (kf:Nat->Int) (k1 k2 k3:Int) (k4:List UInt8) (k5:Int):Ex×St:=(.ex 0,⟨jsV 71 0 Aa [(4,.ptr 1 0),(13,.ptr 6 0)],[.cells [iV a,.sl 6 n λi=>eV (g i),.sl 5 m λi=>evV (x i),iV t,nV k,.sl 1 p λi=>iV (r i),.sl 1 q λi=>.sl 1 (ln i) λj=>iV (co i j)],.cells [iV 0,.str [],.str [],.nilS,.nilS,iV 0,iV 0,iV 0,iV 0,.str [],iV 0,.nilS],.jag ⟨49,1,toN t,λ_=>.und,0,51,8,λ_=>true,lw,λu j=>inV (cw u j)⟩,.row 3 1 m (λi=>iV (y i)),.row 92 6 n (λi=>eV (cf i)),.row 35 6 kW (λi=>BE kX kf i),.cells [iV a,.str nm,.str tx,.ref 7,.jref 2,iV 1,iV k1,iV k2,iV k3,.str k4,iV k5,.ref 5],.row 55 5 b (λi=>Di i)]⟩)
noncomputable def Uu (L:LT):St->T (Ex×St):=λst=>A7 tab ⟨Ap N7,L,Gl⟩ (Ar Tryz.f6 0) 0 st
section
variable (L:LT) (a:Int) (n:Nat) (g:Nat->E6) (m:Nat) (x:Nat->Ev5) (t:Int) (k:Nat) (p:Nat) (r:Nat->Int) (q:Nat) (ln:Nat->Nat) (co:Nat->Nat->Int) (nm:List UInt8) (b:Nat) (tx:List UInt8) (lw:Nat->Nat) (cw:Nat->Nat->In4) (y:Nat->Int) (cf:Nat->E6) (kW:Nat) (kX:Nat->Tg) (kf:Nat->Int) (k1 k2 k3:Int) (k4:List UInt8) (k5:Int)  (j:Nat->V)
include L a n g m x t k p r q ln co nm b tx lw cw y cf kW kX kf k1 k2 k3 k4 k5 j
theorem r6e (h0:ilt (ofNat b) (ofNat k)=false):Ah (Uu L) (lp6 a n g m x t k p r q ln co nm) (st6 a n g m x t k p r q ln co nm b tx lw cw y cf kW kX kf k1 k2 k3 k4 k5 j)=some ((.ex 0),⟨jsV 71 0 Aa [(4,.ptr 1 0),(13,.ptr 6 0)],[.cells [iV a,.sl 6 n (λi=>eV (g i)),.sl 5 m (λi=>.agg [iV (x i).th,iV (x i).pl,iV (x i).dir,iV (x i).loc,iV (x i).val]),iV t,nV k,.sl 1 p (λi=>iV (r i)),.sl 1 q (λi=>.sl 1 (ln i) (λj=>iV (co i j)))],.cells [iV 0,.str [],.str [],.nilS,.nilS,iV 0,iV 0,iV 0,iV 0,.str [],iV 0,.nilS],.jag (Jag.mk 49 1 (toN t) Aa 0 51 8 (λ_=>true) lw (λu j=>.agg [iV (cw u j).op,iV (cw u j).d,iV 0,iV 0,iV (cw u j).imm,.str (cw u j).loc,.str [],iV 0])),.row 3 1 m (λi=>iV (y i)),.row 92 6 n (λi=>eV (cf i)),.row 35 6 kW (λi=>.agg [iV 2,iV (kX i).th,iV (kX i).rg,.str (kX i).lc,iV (kf i),.nilS]),.cells [iV a,.str nm,.str tx,.ref 7,.jref 2,iV 1,iV k1,iV k2,iV k3,.str k4,iV k5,.ref 5],.row 55 5 b (λi=>.agg [iV (-1),iV 0,.str (B1 (ofNat i)),.str [],iV 0])]⟩):=by
 exact Ab (ks:=[kn h0]) (by kernel_rfl)
theorem r6n (h0:ilt (ofNat b) (ofNat k)=true) (h35:Ba b 1 56=true):Ah (Uu L) (lp6 a n g m x t k p r q ln co nm) (st6 a n g m x t k p r q ln co nm b tx lw cw y cf kW kX kf k1 k2 k3 k4 k5 j)=some (.nm,⟨jsV 71 0 Aa [(4,.ptr 1 0),(13,.ptr 6 0),(53,nV k),(54,iV (wr .i64 (Af (ofNat b) 1)))],[.cells [iV a,.sl 6 n (λi=>eV (g i)),.sl 5 m (λi=>.agg [iV (x i).th,iV (x i).pl,iV (x i).dir,iV (x i).loc,iV (x i).val]),iV t,nV k,.sl 1 p (λi=>iV (r i)),.sl 1 q (λi=>.sl 1 (ln i) (λj=>iV (co i j)))],.cells [iV 0,.str [],.str [],.nilS,.nilS,iV 0,iV 0,iV 0,iV 0,.str [],iV 0,.nilS],.jag (Jag.mk 49 1 (toN t) Aa 0 51 8 (λ_=>true) lw (λu j=>.agg [iV (cw u j).op,iV (cw u j).d,iV 0,iV 0,iV (cw u j).imm,.str (cw u j).loc,.str [],iV 0])),.row 3 1 m (λi=>iV (y i)),.row 92 6 n (λi=>eV (cf i)),.row 35 6 kW (λi=>.agg [iV 2,iV (kX i).th,iV (kX i).rg,.str (kX i).lc,iV (kf i),.nilS]),.cells [iV a,.str nm,.str tx,.ref 7,.jref 2,iV 1,iV k1,iV k2,iV k3,.str k4,iV k5,.ref 5],.row 55 5 (AS b 1) (As b (λi=>.agg [iV (-1),iV 0,.str (B1 (ofNat i)),.str [],iV 0]) (Di b))]⟩):=by
 exact Ab (ks:=[kn h0,kn h35]) (by kernel_rfl)
end
theorem w6o (L:LT) (p0:PT) (a:Int) (n:Nat) (g:Nat->E6) (m:Nat) (x:Nat->Ev5) (t:Int) (k:Nat) (p:Nat) (r:Nat->Int) (q:Nat) (ln:Nat->Nat) (co:Nat->Nat->Int) (nm:List UInt8) (b:Nat) (tx:List UInt8) (lw:Nat->Nat) (cw:Nat->Nat->In4) (y:Nat->Int) (cf:Nat->E6) (kW:Nat) (kX:Nat->Tg) (kf:Nat->Int) (k1 k2 k3:Int) (k4:List UInt8) (k5:Int) (h36:AB q (λi=>AB (ln i) (λ_=>true))=true) (h37:BF n=true) (h38:Aj n=true) (h39:Aj m=true) (h40:Aj p=true) (h41:Aj q=true) (h42:AB q (λi=>Aj (ln i))=true) (h43:ieq (BA a n g m x t (ofNat k) p r q ln (λi i_1=>co i i_1)) 0=true) (h1:Kc nm=true) (h44:wrX a n g m x t (ofNat k) p r q ln (λi i_1=>co i i_1)=true) (h45:Co n g=true) (h46:Bv [.cells [iV a,.sl 6 n (λi=>eV (g i)),.sl 5 m (λi=>.agg [iV (x i).th,iV (x i).pl,iV (x i).dir,iV (x i).loc,iV (x i).val]),iV t,nV k,.sl 1 p (λi=>iV (r i)),.sl 1 q (λi=>.sl 1 (ln i) (λj=>iV (co i j)))],.cells [iV 0,.str [],.str [],.nilS,.nilS,iV 0,iV 0,iV 0,iV 0,.str [],iV 0,.nilS],.jag (Jag.mk 49 1 (toN t) Aa 0 51 8 (λ_=>true) (lwX a n g m x t (ofNat k) p r q ln (λi i_1=>co i i_1)) (λu j=>.agg [iV (cwX a n g m x t (ofNat k) p r q ln (λi i_1=>co i i_1) u j).op,iV (cwX a n g m x t (ofNat k) p r q ln (λi i_1=>co i i_1) u j).d,iV 0,iV 0,iV (cwX a n g m x t (ofNat k) p r q ln (λi i_1=>co i i_1) u j).imm,.str (cwX a n g m x t (ofNat k) p r q ln (λi i_1=>co i i_1) u j).loc,.str [],iV 0])),.row 3 1 m (λi=>iV (yyX a n g m x t (ofNat k) p r q ln (λi i_1=>co i i_1) i)),.row 92 6 n (λi=>eV (AV n g i))]=true) (h47:seq nm nm=true) (h48:seq (CY n (λi=>AV n g i)) (CY n (λi=>AV n g i))=true) (h49:Uw (Sh7.mk a n g m x t (ofNat k) p r q (λi=>((ln i),co i))) m (yyX a n g m x t (ofNat k) p r q ln (λi i_1=>co i i_1))=true) (h50:BC [.row 35 6 (I5 (DR m x (yyX a n g m x t (ofNat k) p r q ln (λi i_1=>co i i_1)) q ln)) (λi=>.agg [iV 2,iV (FQ m x (yyX a n g m x t (ofNat k) p r q ln (λi i_1=>co i i_1)) q ln i).th,iV (FQ m x (yyX a n g m x t (ofNat k) p r q ln (λi i_1=>co i i_1)) q ln i).rg,.str (FQ m x (yyX a n g m x t (ofNat k) p r q ln (λi i_1=>co i i_1)) q ln i).lc,iV (So m x (yyX a n g m x t (ofNat k) p r q ln (λi i_1=>co i i_1)) q ln i),.nilS])]=true) (hp0:p0 (Uu (onP 0 p0 (en6e a n g m x t k p r q ln co nm b tx lw cw y cf kW kX kf k1 k2 k3 k4 k5) L)) (ent6 a n g m x t k p r q ln co nm)=true):(Az (Ak tab ⟨Ap N7,onP 0 p0 (en6e a n g m x t k p r q ln co nm b tx lw cw y cf kW kX kf k1 k2 k3 k4 k5) L,Gl⟩ Tryz.f6 [.agg [iV a,.sl 6 n λi=>eV (g i),.sl 5 m λi=>evV (x i),iV t,nV k,.sl 1 p λi=>iV (r i),.sl 1 q λi=>.sl 1 (ln i) λj=>iV (co i j)],.str nm] [])).sem=some ((.tup [.agg [iV a,.str nm,.str tx,.ref 0,.jref 1,iV 1,iV k1,iV k2,iV k3,.str k4,iV k5,.ref 2],iV 0]),[.row 55 5 b (λi=>.agg [iV (-1),iV 0,.str (B1 (ofNat i)),.str [],iV 0]),.jag (Jag.mk 49 1 (toN t) Aa 0 51 8 (λ_=>true) lw (λu j=>.agg [iV (cw u j).op,iV (cw u j).d,iV 0,iV 0,iV (cw u j).imm,.str (cw u j).loc,.str [],iV 0])),.row 35 6 kW (λi=>.agg [iV 2,iV (kX i).th,iV (kX i).rg,.str (kX i).lc,iV (kf i),.nilS])]):=by
 exact Ab (ks:=[kL n,kL m,kL p,kn h36,kn h37,kA (kn h38) (kA (kn h39) (kA (kn h40) (kA (kn h41) (kn h42)))),kN (kn h43),kN (kn h1),kL n,kL m,kL p,kn h36,kn h44,kL n,kn h37,kn h45,kn h46,kL n,kn h37,kI a,kn h47,kn h48,kn h46,kL n,kL m,kL p,kn h36,kL m,kn h49,kn h50,kI a,kn h47,kn h48,kI a,kn h47,kn h48,kn hp0]) (by kernel_rfl)
section
variable (a:Int) (n:Nat) (g:Nat->E6) (m:Nat) (x:Nat->Ev5) (t:Int) (k:Nat) (p:Nat) (r:Nat->Int) (q:Nat) (ln:Nat->Nat) (co:Nat->Nat->Int) (nm:List UInt8) (tx:List UInt8) (lw:Nat->Nat) (cw:Nat->Nat->In4) (y:Nat->Int) (cf:Nat->E6) (kW:Nat) (kX:Nat->Tg) (kf:Nat->Int) (k1 k2 k3:Int) (k4:List UInt8) (k5:Int)
theorem AkP (M:LT) (hk:k <= 1023):∀ (d b:Nat) (j:Nat->V),k=b+d->LRun ⟨Ap N7,Gl⟩ (Uu M) (st6 a n g m x t k p r q ln co nm b tx lw cw y cf kW kX kf k1 k2 k3 k4 k5 j) (en6e a n g m x t k p r q ln co nm k tx lw cw y cf kW kX kf k1 k2 k3 k4 k5)
 | 0,b,j,h=>by
  have:k=b:=by omega
  subst this;exact LRun.exit (r6e M a n g m x t k p r q ln co nm k tx lw cw y cf kW kX kf k1 k2 k3 k4 k5 j (A1 (Nat.le_refl _))) (by simp)
 | d+1,b,j,h=>by
  have hb:b<k:=by omega
  have h1:=r6n M a n g m x t k p r q ln co nm b tx lw cw y cf kW kX kf k1 k2 k3 k4 k5 j (ofNat_lt hb) (decide_eq_true (by omega));rw [Aq hb (by omega)] at h1;refine LRun.round h1 (Fe (i:=7) (n:=b+1) (g':=Di) rfl λi _=>?_) (AkP M hk d (b+1) Aa (by omega));show Di i=As b Di (Di b) i;rw [Bi];cases hi:Nat.beq i b with
  | true=>rw [Nat.eq_of_beq_eq_true hi]; rfl
  | false=>rfl
end
theorem ent6_eq (a:Int) (n:Nat) (g:Nat->E6) (m:Nat) (x:Nat->Ev5) (t:Int) (k:Nat) (p:Nat) (r:Nat->Int) (q:Nat) (ln:Nat->Nat) (co:Nat->Nat->Int) (nm:List UInt8):(⟨(ent6 a n g m x t k p r q ln co nm).t,(ent6 a n g m x t k p r q ln co nm).h.set 7 (.row 55 5 0 Di)⟩:St)=st6 a n g m x t k p r q ln co nm 0 (CY n λi=>AV n g i) (lwX a n g m x t (ofNat k) p r q ln co) (cwX a n g m x t (ofNat k) p r q ln co) (yyX a n g m x t (ofNat k) p r q ln co) (AV n g)
  (I5 (DR m x (yyX a n g m x t (ofNat k) p r q ln co) q ln)) (FQ m x (yyX a n g m x t (ofNat k) p r q ln co) q ln) (So m x (yyX a n g m x t (ofNat k) p r q ln co) q ln)
  (Pg (DR m x (yyX a n g m x t (ofNat k) p r q ln co) q ln)) (Dz (DR m x (yyX a n g m x t (ofNat k) p r q ln co) q ln) (FQ m x (yyX a n g m x t (ofNat k) p r q ln co) q ln)).th (Dz (DR m x (yyX a n g m x t (ofNat k) p r q ln co) q ln) (FQ m x (yyX a n g m x t (ofNat k) p r q ln co) q ln)).rg (Dz (DR m x (yyX a n g m x t (ofNat k) p r q ln co) q ln) (FQ m x (yyX a n g m x t (ofNat k) p r q ln co) q ln)).lc
  (Ph (DR m x (yyX a n g m x t (ofNat k) p r q ln co) q ln) (So m x (yyX a n g m x t (ofNat k) p r q ln co) q ln)) (λi=>nth (ent6 a n g m x t k p r q ln co nm).t i):=by kernel_rfl
theorem p6t:Ax Tryz.prog Gl 6 ZJ:=by
 refine Am A8 mixed Tryz.func6 (by kernel_rfl) (by kernel_rfl) λvs v h' h=>?_;unfold ZJ at h;split at h
 ·rename_i v1 nm
  obtain ⟨s,a1,h⟩:=apS_some h;obtain ⟨hf,h⟩:=Ad h;obtain ⟨hn,h⟩:=Ad h;obtain ⟨a,n,g,m,x,t,kk,p,r,q,C⟩:=s;obtain ⟨ln,co,hC⟩:∃ (ln:Nat->Nat) (co:Nat->Nat->Int),C=λu=>(ln u,co u):=⟨λu=>(C u).1,λu=>(C u).2,rfl⟩;subst hC;have hn:Aj n=true∧Aj m=true∧Aj p=true∧Aj q=true∧(AB q λi=>Aj (ln i))=true:=by simpa [BM,Al] using hn
  obtain ⟨n1,n2,n3,n4,n5⟩:=hn;have hA:Bf [v1,.str nm] [.agg [iV a,.sl 6 n (λi=>eV (g i)),.sl 5 m (λi=>evV (x i)),iV t,iV kk,.sl 1 p (λi=>iV (r i)),.sl 1 q (λu=>.sl 1 (ln u) (λi=>iV (co u i)))],.str nm]:=λS w cs hv=>by
   obtain ⟨c,l,rfl,q1,q2⟩:=hv;exact ⟨c,_,rfl,a1 S w c q1,q2⟩
  have hc0:Bo Tryz.prog ⟨Ap N7,Gl⟩:=(AI Adv [] (G:=Gl)).1;cases hr:ieq (rtS ⟨a,n,g,m,x,t,kk,p,r,q,λu=>(ln u,co u)⟩) 0 with
  | false =>rw [hr] at h;have:=Ac (show (T.leaf _).sem=_ from h);simp only [Prod.mk.injEq] at this;obtain ⟨rfl,rfl⟩:=this;exact ⟨_,⟨Ap N7,noL,Gl⟩,_,hA,rfl,hc0,G2,w6a noL a n g m x t kk p r q ln co nm (CG () ()) hf n1 n2 n3 n4 n5 hr,Aw.refl _⟩
  | true =>
   rw [hr] at h;have h:(T.br (Kc nm) (.br (Yn ⟨a,n,g,m,x,t,kk,p,r,q,λu=>(ln u,co u)⟩) (.leaf (.tup [P6 ⟨a,n,g,m,x,t,kk,p,r,q,λu=>(ln u,co u)⟩ nm,iV 0],S7 ⟨a,n,g,m,x,t,kk,p,r,q,λu=>(ln u,co u)⟩)) .fail) (.leaf (.tup [Ob,iV 130],Kr))).sem=some (v,h'):=h;cases ht:Kc nm with
   | false =>rw [ht] at h;have:=Ac (show (T.leaf _).sem=_ from h);simp only [Prod.mk.injEq] at this;obtain ⟨rfl,rfl⟩:=this;exact ⟨_,⟨Ap N7,noL,Gl⟩,_,hA,rfl,hc0,G2,w6b noL a n g m x t kk p r q ln co nm (CG () ()) hf n1 n2 n3 n4 n5 hr ht,Aw.refl _⟩
   | true =>
    rw [ht] at h;obtain ⟨hg,h⟩:=Ad (show (T.br _ _ .fail).sem=_ from h);have:=Ac h;simp only [Prod.mk.injEq] at this;obtain ⟨rfl,rfl⟩:=this;simp only [Yn,Bool.and_eq_true] at hg;obtain ⟨g1,g2,g3,g4,g5⟩:=hg;obtain ⟨k,hk⟩:∃ k:Nat,kk=ofNat k:=⟨toN kk,by simpa [ieq] using g1⟩;subst hk;have g2:k <= 1023:=Nat.le_of_ble_eq_true g2
    let r6:=en6e a n g m x t k p r q ln co nm k (CY n λi=>AV n g i) (lwX a n g m x t (ofNat k) p r q ln co) (cwX a n g m x t (ofNat k) p r q ln co) (yyX a n g m x t (ofNat k) p r q ln co) (AV n g)
     (I5 (DR m x (yyX a n g m x t (ofNat k) p r q ln co) q ln)) (FQ m x (yyX a n g m x t (ofNat k) p r q ln co) q ln) (So m x (yyX a n g m x t (ofNat k) p r q ln co) q ln)
     (Pg (DR m x (yyX a n g m x t (ofNat k) p r q ln co) q ln)) (Dz (DR m x (yyX a n g m x t (ofNat k) p r q ln co) q ln) (FQ m x (yyX a n g m x t (ofNat k) p r q ln co) q ln)).th (Dz (DR m x (yyX a n g m x t (ofNat k) p r q ln co) q ln) (FQ m x (yyX a n g m x t (ofNat k) p r q ln co) q ln)).rg (Dz (DR m x (yyX a n g m x t (ofNat k) p r q ln co) q ln) (FQ m x (yyX a n g m x t (ofNat k) p r q ln co) q ln)).lc
     (Ph (DR m x (yyX a n g m x t (ofNat k) p r q ln co) q ln) (So m x (yyX a n g m x t (ofNat k) p r q ln co) q ln))
    have hrun:∀ M,LRun ⟨Ap N7,Gl⟩ (Uu M) (ent6 a n g m x t k p r q ln co nm) r6:=λM=>by
     refine .weak (Fe (i:=7) (n:=0) (g':=Di) rfl λ_ hq=>absurd hq (Nat.not_lt_zero _)) ?_;rw [ent6_eq];exact AkP a n g m x t k p r q ln co nm _ _ _ _ _ _ _ _ _ _ _ _ _ M g2 k 0 _ (by omega)
    exact ⟨_,⟨Ap N7,_,Gl⟩,_,hA,rfl,hc0,Hp (k:=0) (r:=r6) G2,w6o noL _ a n g m x t k p r q ln co nm k _ _ _ _ _ _ _ _ _ _ _ _ _ (CG () ()) hf n1 n2 n3 n4 n5 hr ht g3 g4 (by simp [Bv]) (CT _) (CT _) g5 (Pc _ _ _) (DZ (hrun _)),Aw.refl _⟩
 ·cases h
end Go.Proofs.YtkgdhhieomndeaaGreatDoor.Em
namespace Go.Proofs.YtkgdhhieomndeaaGreatDoor.Sh
open Go.Sy Ed
set_option maxHeartbeats 1000000
set_option maxRecDepth 4000
def Ac0 (e:E6):Bool:=ieq e.src 1 || ieq e.src 2
theorem Zc:(List.range 112).all (λk=>Ac0 (Df k))=true:=by kernel_rfl
theorem AoV {e:E6} (h:Bc e=0):Ac0 e=true:=by
 rcases DP e with ⟨k,hk,_,_,he,_⟩ | ⟨h2,_⟩
 ·rw [<- he]
  exact List.all_eq_true.1 Zc k (by simpa using hk)
 ·rw [h2] at h
  cases h
theorem WV {lw:Nat->Nat} {u i:Nat} (h:i ≠ u):FS lw u i=lw i:=by unfold FS; rw [Go.Sy.nbeq_ne h]; rfl
theorem IJ (lw:Nat->Nat) (u:Nat):FS lw u u=lw u+1:=by unfold FS; rw [nbeq_self]; rfl
theorem WW {lw:Nat->Nat} {cw:Nat->Nat->In4} {v:In4} {u i:Nat} (h:i ≠ u):J4 lw cw u v i=cw i:=by funext j; unfold J4; rw [Go.Sy.nbeq_ne h]; rfl
theorem X7 (fe:Bool) (x:Ev5) (b:Nat) (W:Wr4):(evW fe x b W).lw=FS (bif fe then FS W.lw (toN x.th) else W.lw) (toN x.th):=by
 unfold evW; cases fe <;> cases ieq x.dir 2 <;> rfl
theorem X8 (fe:Bool) (x:Ev5) (b:Nat) (W:Wr4) :
  (evW fe x b W).cw=J4 (bif fe then FS W.lw (toN x.th) else W.lw) (bif fe then J4 W.lw W.cw (toN x.th) FH else W.cw) (toN x.th) (RH x W):=by
 unfold evW; cases fe <;> cases ieq x.dir 2 <;> rfl
theorem AmF {fe:Bool} {x:Ev5} {b:Nat} {W:Wr4} {u:Nat} (h:toN x.th ≠ u):(evW fe x b W).lw u=W.lw u∧(evW fe x b W).cw u=W.cw u:=by
 have h:=Ne.symm h;rw [X7,X8,WV h,WW h];cases fe
 ·exact ⟨rfl,rfl⟩
 ·exact ⟨WV h,WW h⟩
theorem ZI {n:Nat} {g:Nat->E6} {d:Nat->Bool} (hl:obF g (n-1)=true) {i:Nat} (hi:i<n):(evF n g d i).th=Int.ofNat (An (obF g) i):=by
 rw [Cg hi];show AG (obF g) n i=_;rw [Fn hi];unfold AX;rw [if_neg (by have:=before hi hl; omega)]
theorem TU {e:E6} (h:AK e=true):ieq e.kind 5=false:=by
 cases hc:ieq e.kind 5 with
 | false=>rfl
 | true =>have hk:=BN hc;have:=Aej (Ac8 (e:=e) (by rw [hk]; rfl) (by rw [hk]; rfl) (by rw [hk]; rfl));rw [this] at h;cases h
end Go.Proofs.YtkgdhhieomndeaaGreatDoor.Sh
namespace Go.Proofs.YtkgdhhieomndeaaGreatDoor.Sh
open Go.Sy Ed
set_option maxHeartbeats 1000000
set_option maxRecDepth 4000
end Go.Proofs.YtkgdhhieomndeaaGreatDoor.Sh
