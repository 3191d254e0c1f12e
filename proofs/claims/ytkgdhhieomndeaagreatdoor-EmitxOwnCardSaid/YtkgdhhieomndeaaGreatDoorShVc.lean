/-
  A shape's test (emitx.Test). No conditions.
-/
import Derived.Test.YtkgdhhieomndeaaGreatDoorCyJ
import Derived.Test.YtkgdhhieomndeaaGreatDoorShT
import Derived.Test.YtkgdhhieomndeaaGreatDoorShVb
import Derived.Test.YtkgdhhieomndeaaGreatDoorShV
import Derived.Test.YtkgdhhieomndeaaGreatDoorShS
namespace Go.Proofs.YtkgdhhieomndeaaGreatDoor.Em
open Go.Sy Go Go.Proofs.YtkgdhhieomndeaaGreatDoor.Ed Go.Proofs.YtkgdhhieomndeaaGreatDoor.Sh
open Int (ofNat)
set_option maxRecDepth 100000
set_option maxHeartbeats 1000000
def Do (i:Nat):V:=.agg [iV (-1),iV 0,.str (BB (ofNat i)),.str [],iV 0]
def Eu (m:Nat) (x:Nat->Ev5) (rg:Nat->Int) (q:Nat) (ln:Nat->Nat):Nat:=(askL m x rg q ln).length
def Gk (m:Nat) (x:Nat->Ev5) (rg:Nat->Int) (q:Nat) (ln:Nat->Nat):Nat->Tg:=gT (askL m x rg q ln)
def Td (m:Nat) (x:Nat->Ev5) (rg:Nat->Int) (q:Nat) (ln:Nat->Nat):Nat->Int:=gW (askL m x rg q ln)
noncomputable def NW:AK:=(14,RF)::(15,Zn)::(16,LJ)::(17,Ib)::(18,RR)::(19,AkA)::(20,OK)::[]
theorem Aer:Aq Tryz.prog Gl NW:=.cons p74 <| .cons p18 <| .cons AmP <| .cons p65 <| .cons Ed.p63 <| .cons p21 <| .cons p37 .nil
def rtS (s:Sh7):Int:=B1 s.arch s.ne s.E s.nx s.X s.tt s.kk s.nr s.R s.nc (λi=>(s.C i).1) (λi=>(s.C i).2)
def axS (s:Sh7):List (Tg×Int):=askL s.nx s.X (wsS s).y s.nc λi=>(s.C i).1
def Rq (s:Sh7):Bool:=ieq s.kk (ofNat (toN s.kk)) && (Nat.ble (toN s.kk) 1023 && (wrB s && (Cp s.ne s.E && QX s s.nx (wsS s).y)))
def Qc (s:Sh7) (nm:List UInt8):V:=.agg [iV s.arch,.str nm,.str (Dn s.ne λi=>AY s.ne s.E i),.ref 0,.jref 1,iV 1,iV (PD (axS s).length),iV (DJ (axS s).length (gT (axS s))).th,iV (DJ (axS s).length (gT (axS s))).rg,.str (DJ (axS s).length (gT (axS s))).lc,iV (PE (axS s).length (gW (axS s))),.ref 2]
def Tx (s:Sh7):List Blk:=[.row 55 5 (toN s.kk) Do,.jag ⟨49,1,toN s.tt,λ_=>.und,0,51,8,λ_=>true,(wsS s).lw,λu j=>inV ((wsS s).cw u j)⟩,.row 35 6 (IZ (axS s).length) (BQ (gT (axS s)) (gW (axS s)))]
def O3:V:=.agg [iV 0,.str [],.str [],.ref 0,.jref 1,iV 0,iV 0,iV 0,iV 0,.str [],iV 0,.nilS]
def KB:List Blk:=[.row 55 5 0 Aa,.jag ⟨49,1,0,λ_=>.und,0,51,8,λ_=>true,λ_=>0,λ_ _=>.und⟩]
def AaK:List V->AE
 | [v,.str nm]=>apS v λs=>.br (BC s.ne) (.br (BG s) (.br (ieq (rtS s) 0) (.br (Nk nm) (.br (Rq s) (.leaf (.tup [Qc s nm,iV 0],Tx s)) .fail) (.leaf (.tup [O3,iV 130],KB))) (.leaf (.tup [O3,iV (rtS s)],KB))) .fail) .fail
 | _=>.fail
section
variable (L:LT) (a:Int) (n:Nat) (g:Nat->E6) (m:Nat) (x:Nat->Ev5) (t k:Int) (p:Nat) (r:Nat->Int) (q:Nat) (ln:Nat->Nat) (co:Nat->Nat->Int) (nm:List UInt8)
include L a n g m x t k p r q ln co nm
theorem w6a (h35:A4 q (λi=>A4 (ln i) (λ_=>true))=true) (h36:BC n=true) (h37:Af n=true) (h38:Af m=true) (h39:Af p=true) (h40:Af q=true) (h41:A4 q (λi=>Af (ln i))=true) (h42:ieq (B1 a n g m x t k p r q ln (λi i_1=>co i i_1)) 0=false):(Ay (Ai tab ⟨Am NW,L,Gl⟩ Tryz.f6 [.agg [iV a,.sl 6 n λi=>eV (g i),.sl 5 m λi=>evV (x i),iV t,iV k,.sl 1 p λi=>iV (r i),.sl 1 q λi=>.sl 1 (ln i) λj=>iV (co i j)],.str nm] [])).sem=some ((.tup [.agg [iV 0,.str [],.str [],.ref 0,.jref 1,iV 0,iV 0,iV 0,iV 0,.str [],iV 0,.nilS],iV (B1 a n g m x t k p r q ln (λi i_1=>co i i_1))]),[.row 55 5 0 Aa,.jag (Jag.mk 49 1 0 Aa 0 51 8 (λ_=>true) (λ_=>0) (λ_ _=>.und))]):=by
 exact Ac (ks:=[kL n,kL m,kL p,kn h35,kn h36,kA (kn h37) (kA (kn h38) (kA (kn h39) (kA (kn h40) (kn h41)))),kN (kn h42)]) (by kernel_rfl)
theorem w6b (h36:A4 q (λi=>A4 (ln i) (λ_=>true))=true) (h37:BC n=true) (h38:Af n=true) (h39:Af m=true) (h40:Af p=true) (h41:Af q=true) (h42:A4 q (λi=>Af (ln i))=true) (h43:ieq (B1 a n g m x t k p r q ln (λi i_1=>co i i_1)) 0=true) (h1:Nk nm=false):(Ay (Ai tab ⟨Am NW,L,Gl⟩ Tryz.f6 [.agg [iV a,.sl 6 n λi=>eV (g i),.sl 5 m λi=>evV (x i),iV t,iV k,.sl 1 p λi=>iV (r i),.sl 1 q λi=>.sl 1 (ln i) λj=>iV (co i j)],.str nm] [])).sem=some ((.tup [.agg [iV 0,.str [],.str [],.ref 0,.jref 1,iV 0,iV 0,iV 0,iV 0,.str [],iV 0,.nilS],iV 130]),[.row 55 5 0 Aa,.jag (Jag.mk 49 1 0 Aa 0 51 8 (λ_=>true) (λ_=>0) (λ_ _=>.und))]):=by
 exact Ac (ks:=[kL n,kL m,kL p,kn h36,kn h37,kA (kn h38) (kA (kn h39) (kA (kn h40) (kA (kn h41) (kn h42)))),kN (kn h43),kN (kn h1)]) (by kernel_rfl)
end
def ent6 (a:Int) (n:Nat) (g:Nat->E6) (m:Nat) (x:Nat->Ev5) (t:Int) (k:Nat) (p:Nat) (r:Nat->Int) (q:Nat) (ln:Nat->Nat) (co:Nat->Nat->Int) (nm:List UInt8) :St:=⟨jsV 71 0 (λ_=>A9) [(0,.agg [iV a,.sl 6 n (λi=>eV (g i)),.sl 5 m (λi=>.agg [iV (x i).th,iV (x i).pl,iV (x i).dir,iV (x i).loc,iV (x i).val]),iV t,nV k,.sl 1 p (λi=>iV (r i)),.sl 1 q (λi=>.sl 1 (ln i) (λj=>iV (co i j)))]),(1,.str nm),(2,.ptr 0 0),(4,.ptr 1 0),(5,iV 0),(6,iV (B1 a n g m x t (ofNat k) p r q ln (λi i_1=>co i i_1))),(7,.jref 2),(8,.ref 3),(9,.ref 4),(10,iV 0),(11,.str (Dn n (λi=>AY n g i))),(12,iV (I9 n (λi=>AY n g i))),(13,.ptr 6 0),(17,.agg [iV a,.sl 6 n (λi=>eV (g i)),.sl 5 m (λi=>.agg [iV (x i).th,iV (x i).pl,iV (x i).dir,iV (x i).loc,iV (x i).val]),iV t,nV k,.sl 1 p (λi=>iV (r i)),.sl 1 q (λi=>.sl 1 (ln i) (λj=>iV (co i j)))]),(18,iV (B1 a n g m x t (ofNat k) p r q ln (λi i_1=>co i i_1))),(19,iV (B1 a n g m x t (ofNat k) p r q ln (λi i_1=>co i i_1))),(20,bV (A5 (ieq (B1 a n g m x t (ofNat k) p r q ln (λi i_1=>co i i_1)) 0))),(23,.str nm),(24,bV (Nk nm)),(25,bV (A5 (Nk nm))),(27,.tup [.jref 2,.ref 3]),(28,.agg [iV a,.sl 6 n (λi=>eV (g i)),.sl 5 m (λi=>.agg [iV (x i).th,iV (x i).pl,iV (x i).dir,iV (x i).loc,iV (x i).val]),iV t,nV k,.sl 1 p (λi=>iV (r i)),.sl 1 q (λi=>.sl 1 (ln i) (λj=>iV (co i j)))]),(29,.tup [.jref 2,.ref 3]),(30,.jref 2),(31,.ref 3),(32,.tup [.ref 4,iV 0]),(33,.ptr 0 1),(34,.sl 6 n (λi=>eV (g i))),(35,.tup [.ref 4,iV 0]),(36,.ref 4),(37,iV 0),(38,.tup [.str (Dn n (λi=>AY n g i)),iV (I9 n (λi=>AY n g i))]),(39,.ref 4),(40,.tup [.str (Dn n (λi=>AY n g i)),iV (I9 n (λi=>AY n g i))]),(41,.str (Dn n (λi=>AY n g i))),(42,iV (I9 n (λi=>AY n g i))),(43,.ptr 0 0),(44,iV a),(45,.str nm),(46,.str (Dn n (λi=>AY n g i))),(47,.jref 2),(48,.agg [iV a,.sl 6 n (λi=>eV (g i)),.sl 5 m (λi=>.agg [iV (x i).th,iV (x i).pl,iV (x i).dir,iV (x i).loc,iV (x i).val]),iV t,nV k,.sl 1 p (λi=>iV (r i)),.sl 1 q (λi=>.sl 1 (ln i) (λj=>iV (co i j)))]),(49,.ref 3),(50,.agg [iV 1,iV (PD (Eu m x (yyX a n g m x t (ofNat k) p r q ln (λi i_1=>co i i_1)) q ln)),iV (DJ (Eu m x (yyX a n g m x t (ofNat k) p r q ln (λi i_1=>co i i_1)) q ln) (Gk m x (yyX a n g m x t (ofNat k) p r q ln (λi i_1=>co i i_1)) q ln)).th,iV (DJ (Eu m x (yyX a n g m x t (ofNat k) p r q ln (λi i_1=>co i i_1)) q ln) (Gk m x (yyX a n g m x t (ofNat k) p r q ln (λi i_1=>co i i_1)) q ln)).rg,.str (DJ (Eu m x (yyX a n g m x t (ofNat k) p r q ln (λi i_1=>co i i_1)) q ln) (Gk m x (yyX a n g m x t (ofNat k) p r q ln (λi i_1=>co i i_1)) q ln)).lc,iV (PE (Eu m x (yyX a n g m x t (ofNat k) p r q ln (λi i_1=>co i i_1)) q ln) (Td m x (yyX a n g m x t (ofNat k) p r q ln (λi i_1=>co i i_1)) q ln)),.ref 5]),(51,.agg [iV a,.str nm,.str (Dn n (λi=>AY n g i)),.nilS,.jref 2,iV 1,iV (PD (Eu m x (yyX a n g m x t (ofNat k) p r q ln (λi i_1=>co i i_1)) q ln)),iV (DJ (Eu m x (yyX a n g m x t (ofNat k) p r q ln (λi i_1=>co i i_1)) q ln) (Gk m x (yyX a n g m x t (ofNat k) p r q ln (λi i_1=>co i i_1)) q ln)).th,iV (DJ (Eu m x (yyX a n g m x t (ofNat k) p r q ln (λi i_1=>co i i_1)) q ln) (Gk m x (yyX a n g m x t (ofNat k) p r q ln (λi i_1=>co i i_1)) q ln)).rg,.str (DJ (Eu m x (yyX a n g m x t (ofNat k) p r q ln (λi i_1=>co i i_1)) q ln) (Gk m x (yyX a n g m x t (ofNat k) p r q ln (λi i_1=>co i i_1)) q ln)).lc,iV (PE (Eu m x (yyX a n g m x t (ofNat k) p r q ln (λi i_1=>co i i_1)) q ln) (Td m x (yyX a n g m x t (ofNat k) p r q ln (λi i_1=>co i i_1)) q ln)),.ref 5]),(52,.ptr 0 4),(53,nV k),(54,iV 0)],[.cells [iV a,.sl 6 n (λi=>eV (g i)),.sl 5 m (λi=>.agg [iV (x i).th,iV (x i).pl,iV (x i).dir,iV (x i).loc,iV (x i).val]),iV t,nV k,.sl 1 p (λi=>iV (r i)),.sl 1 q (λi=>.sl 1 (ln i) (λj=>iV (co i j)))],.cells [iV 0,.str [],.str [],.nilS,.nilS,iV 0,iV 0,iV 0,iV 0,.str [],iV 0,.nilS],.jag (Jag.mk 49 1 (toN t) Aa 0 51 8 (λ_=>true) (lwX a n g m x t (ofNat k) p r q ln (λi i_1=>co i i_1)) (λu j=>.agg [iV (cwX a n g m x t (ofNat k) p r q ln (λi i_1=>co i i_1) u j).op,iV (cwX a n g m x t (ofNat k) p r q ln (λi i_1=>co i i_1) u j).d,iV 0,iV 0,iV (cwX a n g m x t (ofNat k) p r q ln (λi i_1=>co i i_1) u j).imm,.str (cwX a n g m x t (ofNat k) p r q ln (λi i_1=>co i i_1) u j).loc,.str [],iV 0])),.row 3 1 m (λi=>iV (yyX a n g m x t (ofNat k) p r q ln (λi i_1=>co i i_1) i)),.row 92 6 n (λi=>eV (AY n g i)),.row 35 6 (IZ (Eu m x (yyX a n g m x t (ofNat k) p r q ln (λi i_1=>co i i_1)) q ln)) (λi=>.agg [iV 2,iV (Gk m x (yyX a n g m x t (ofNat k) p r q ln (λi i_1=>co i i_1)) q ln i).th,iV (Gk m x (yyX a n g m x t (ofNat k) p r q ln (λi i_1=>co i i_1)) q ln i).rg,.str (Gk m x (yyX a n g m x t (ofNat k) p r q ln (λi i_1=>co i i_1)) q ln i).lc,iV (Td m x (yyX a n g m x t (ofNat k) p r q ln (λi i_1=>co i i_1)) q ln i),.nilS]),.cells [iV a,.str nm,.str (Dn n (λi=>AY n g i)),.ref 7,.jref 2,iV 1,iV (PD (Eu m x (yyX a n g m x t (ofNat k) p r q ln (λi i_1=>co i i_1)) q ln)),iV (DJ (Eu m x (yyX a n g m x t (ofNat k) p r q ln (λi i_1=>co i i_1)) q ln) (Gk m x (yyX a n g m x t (ofNat k) p r q ln (λi i_1=>co i i_1)) q ln)).th,iV (DJ (Eu m x (yyX a n g m x t (ofNat k) p r q ln (λi i_1=>co i i_1)) q ln) (Gk m x (yyX a n g m x t (ofNat k) p r q ln (λi i_1=>co i i_1)) q ln)).rg,.str (DJ (Eu m x (yyX a n g m x t (ofNat k) p r q ln (λi i_1=>co i i_1)) q ln) (Gk m x (yyX a n g m x t (ofNat k) p r q ln (λi i_1=>co i i_1)) q ln)).lc,iV (PE (Eu m x (yyX a n g m x t (ofNat k) p r q ln (λi i_1=>co i i_1)) q ln) (Td m x (yyX a n g m x t (ofNat k) p r q ln (λi i_1=>co i i_1)) q ln)),.ref 5],.row 55 5 0 Aa]⟩
def lp6 (a:Int) (n:Nat) (g:Nat->E6) (m:Nat) (x:Nat->Ev5) (t:Int) (k:Nat) (p:Nat) (r:Nat->Int) (q:Nat) (ln:Nat->Nat) (co:Nat->Nat->Int) (nm:List UInt8):Lp:=⟨bmK 71 0 [4,13,53,54],8,bmK 71 0 [4,13],8,0⟩
def st6 (a:Int) (n:Nat) (g:Nat->E6) (m:Nat) (x:Nat->Ev5) (t:Int) (k:Nat) (p:Nat) (r:Nat->Int) (q:Nat) (ln:Nat->Nat) (co:Nat->Nat->Int) (nm:List UInt8) (b:Nat) (tx:List UInt8) (lw:Nat->Nat) (cw:Nat->Nat->In4) (y:Nat->Int) (cf:Nat->E6) (kW:Nat) (kX:Nat->Tg) (kf:Nat->Int) (k1 k2 k3:Int) (k4:List UInt8) (k5:Int) (j:Nat->V):St:=⟨jsV 71 0 j [(4,.ptr 1 0),(13,.ptr 6 0),(53,nV k),(54,nV b)],[.cells [iV a,.sl 6 n λi=>eV (g i),.sl 5 m λi=>evV (x i),iV t,nV k,.sl 1 p λi=>iV (r i),.sl 1 q λi=>.sl 1 (ln i) λj=>iV (co i j)],.cells [iV 0,.str [],.str [],.nilS,.nilS,iV 0,iV 0,iV 0,iV 0,.str [],iV 0,.nilS],.jag ⟨49,1,toN t,λ_=>.und,0,51,8,λ_=>true,lw,λu j=>inV (cw u j)⟩,.row 3 1 m (λi=>iV (y i)),.row 92 6 n (λi=>eV (cf i)),.row 35 6 kW (λi=>BQ kX kf i),.cells [iV a,.str nm,.str tx,.ref 7,.jref 2,iV 1,iV k1,iV k2,iV k3,.str k4,iV k5,.ref 5],.row 55 5 b (λi=>Do i)]⟩
def en6e (a:Int) (n:Nat) (g:Nat->E6) (m:Nat) (x:Nat->Ev5) (t:Int) (k:Nat) (p:Nat) (r:Nat->Int) (q:Nat) (ln:Nat->Nat) (co:Nat->Nat->Int) (nm:List UInt8) (b:Nat) (tx:List UInt8) (lw:Nat->Nat) (cw:Nat->Nat->In4) (y:Nat->Int) (cf:Nat->E6) (kW:Nat) (kX:Nat->Tg) (kf:Nat->Int) (k1 k2 k3:Int) (k4:List UInt8) (k5:Int):Ex×St:=(.ex 0,⟨jsV 71 0 Aa [(4,.ptr 1 0),(13,.ptr 6 0)],[.cells [iV a,.sl 6 n λi=>eV (g i),.sl 5 m λi=>evV (x i),iV t,nV k,.sl 1 p λi=>iV (r i),.sl 1 q λi=>.sl 1 (ln i) λj=>iV (co i j)],.cells [iV 0,.str [],.str [],.nilS,.nilS,iV 0,iV 0,iV 0,iV 0,.str [],iV 0,.nilS],.jag ⟨49,1,toN t,λ_=>.und,0,51,8,λ_=>true,lw,λu j=>inV (cw u j)⟩,.row 3 1 m (λi=>iV (y i)),.row 92 6 n (λi=>eV (cf i)),.row 35 6 kW (λi=>BQ kX kf i),.cells [iV a,.str nm,.str tx,.ref 7,.jref 2,iV 1,iV k1,iV k2,iV k3,.str k4,iV k5,.ref 5],.row 55 5 b (λi=>Do i)]⟩)
noncomputable def Vs (L:LT):St->T (Ex×St):=λst=>AD tab ⟨Am NW,L,Gl⟩ (Au Tryz.f6 0) 0 st
section
variable (L:LT) (a:Int) (n:Nat) (g:Nat->E6) (m:Nat) (x:Nat->Ev5) (t:Int) (k:Nat) (p:Nat) (r:Nat->Int) (q:Nat) (ln:Nat->Nat) (co:Nat->Nat->Int) (nm:List UInt8) (b:Nat) (tx:List UInt8) (lw:Nat->Nat) (cw:Nat->Nat->In4) (y:Nat->Int) (cf:Nat->E6) (kW:Nat) (kX:Nat->Tg) (kf:Nat->Int) (k1 k2 k3:Int) (k4:List UInt8) (k5:Int)  (j:Nat->V)
include L a n g m x t k p r q ln co nm b tx lw cw y cf kW kX kf k1 k2 k3 k4 k5 j
theorem r6e (h0:ilt (ofNat b) (ofNat k)=false):Al (Vs L) (lp6 a n g m x t k p r q ln co nm) (st6 a n g m x t k p r q ln co nm b tx lw cw y cf kW kX kf k1 k2 k3 k4 k5 j)=some ((.ex 0),⟨jsV 71 0 Aa [(4,.ptr 1 0),(13,.ptr 6 0)],[.cells [iV a,.sl 6 n (λi=>eV (g i)),.sl 5 m (λi=>.agg [iV (x i).th,iV (x i).pl,iV (x i).dir,iV (x i).loc,iV (x i).val]),iV t,nV k,.sl 1 p (λi=>iV (r i)),.sl 1 q (λi=>.sl 1 (ln i) (λj=>iV (co i j)))],.cells [iV 0,.str [],.str [],.nilS,.nilS,iV 0,iV 0,iV 0,iV 0,.str [],iV 0,.nilS],.jag (Jag.mk 49 1 (toN t) Aa 0 51 8 (λ_=>true) lw (λu j=>.agg [iV (cw u j).op,iV (cw u j).d,iV 0,iV 0,iV (cw u j).imm,.str (cw u j).loc,.str [],iV 0])),.row 3 1 m (λi=>iV (y i)),.row 92 6 n (λi=>eV (cf i)),.row 35 6 kW (λi=>.agg [iV 2,iV (kX i).th,iV (kX i).rg,.str (kX i).lc,iV (kf i),.nilS]),.cells [iV a,.str nm,.str tx,.ref 7,.jref 2,iV 1,iV k1,iV k2,iV k3,.str k4,iV k5,.ref 5],.row 55 5 b (λi=>.agg [iV (-1),iV 0,.str (BB (ofNat i)),.str [],iV 0])]⟩):=by
 exact Ac (ks:=[kn h0]) (by kernel_rfl)
theorem r6n (h0:ilt (ofNat b) (ofNat k)=true) (h35:Bn b 1 56=true):Al (Vs L) (lp6 a n g m x t k p r q ln co nm) (st6 a n g m x t k p r q ln co nm b tx lw cw y cf kW kX kf k1 k2 k3 k4 k5 j)=some (.nm,⟨jsV 71 0 Aa [(4,.ptr 1 0),(13,.ptr 6 0),(53,nV k),(54,iV (wr .i64 (Ak (ofNat b) 1)))],[.cells [iV a,.sl 6 n (λi=>eV (g i)),.sl 5 m (λi=>.agg [iV (x i).th,iV (x i).pl,iV (x i).dir,iV (x i).loc,iV (x i).val]),iV t,nV k,.sl 1 p (λi=>iV (r i)),.sl 1 q (λi=>.sl 1 (ln i) (λj=>iV (co i j)))],.cells [iV 0,.str [],.str [],.nilS,.nilS,iV 0,iV 0,iV 0,iV 0,.str [],iV 0,.nilS],.jag (Jag.mk 49 1 (toN t) Aa 0 51 8 (λ_=>true) lw (λu j=>.agg [iV (cw u j).op,iV (cw u j).d,iV 0,iV 0,iV (cw u j).imm,.str (cw u j).loc,.str [],iV 0])),.row 3 1 m (λi=>iV (y i)),.row 92 6 n (λi=>eV (cf i)),.row 35 6 kW (λi=>.agg [iV 2,iV (kX i).th,iV (kX i).rg,.str (kX i).lc,iV (kf i),.nilS]),.cells [iV a,.str nm,.str tx,.ref 7,.jref 2,iV 1,iV k1,iV k2,iV k3,.str k4,iV k5,.ref 5],.row 55 5 (AV b 1) (As b (λi=>.agg [iV (-1),iV 0,.str (BB (ofNat i)),.str [],iV 0]) (Do b))]⟩):=by
 exact Ac (ks:=[kn h0,kn h35]) (by kernel_rfl)
end
theorem w6o (L:LT) (p0:PT) (a:Int) (n:Nat) (g:Nat->E6) (m:Nat) (x:Nat->Ev5) (t:Int) (k:Nat) (p:Nat) (r:Nat->Int) (q:Nat) (ln:Nat->Nat) (co:Nat->Nat->Int) (nm:List UInt8) (b:Nat) (tx:List UInt8) (lw:Nat->Nat) (cw:Nat->Nat->In4) (y:Nat->Int) (cf:Nat->E6) (kW:Nat) (kX:Nat->Tg) (kf:Nat->Int) (k1 k2 k3:Int) (k4:List UInt8) (k5:Int) (h36:A4 q (λi=>A4 (ln i) (λ_=>true))=true) (h37:BC n=true) (h38:Af n=true) (h39:Af m=true) (h40:Af p=true) (h41:Af q=true) (h42:A4 q (λi=>Af (ln i))=true) (h43:ieq (B1 a n g m x t (ofNat k) p r q ln (λi i_1=>co i i_1)) 0=true) (h1:Nk nm=true) (h44:wrX a n g m x t (ofNat k) p r q ln (λi i_1=>co i i_1)=true) (h45:Cp n g=true) (h46:BJ [.cells [iV a,.sl 6 n (λi=>eV (g i)),.sl 5 m (λi=>.agg [iV (x i).th,iV (x i).pl,iV (x i).dir,iV (x i).loc,iV (x i).val]),iV t,nV k,.sl 1 p (λi=>iV (r i)),.sl 1 q (λi=>.sl 1 (ln i) (λj=>iV (co i j)))],.cells [iV 0,.str [],.str [],.nilS,.nilS,iV 0,iV 0,iV 0,iV 0,.str [],iV 0,.nilS],.jag (Jag.mk 49 1 (toN t) Aa 0 51 8 (λ_=>true) (lwX a n g m x t (ofNat k) p r q ln (λi i_1=>co i i_1)) (λu j=>.agg [iV (cwX a n g m x t (ofNat k) p r q ln (λi i_1=>co i i_1) u j).op,iV (cwX a n g m x t (ofNat k) p r q ln (λi i_1=>co i i_1) u j).d,iV 0,iV 0,iV (cwX a n g m x t (ofNat k) p r q ln (λi i_1=>co i i_1) u j).imm,.str (cwX a n g m x t (ofNat k) p r q ln (λi i_1=>co i i_1) u j).loc,.str [],iV 0])),.row 3 1 m (λi=>iV (yyX a n g m x t (ofNat k) p r q ln (λi i_1=>co i i_1) i)),.row 92 6 n (λi=>eV (AY n g i))]=true) (h47:seq nm nm=true) (h48:seq (Dn n (λi=>AY n g i)) (Dn n (λi=>AY n g i))=true) (h49:QX (Sh7.mk a n g m x t (ofNat k) p r q (λi=>((ln i),co i))) m (yyX a n g m x t (ofNat k) p r q ln (λi i_1=>co i i_1))=true) (h50:Cb [.row 35 6 (IZ (Eu m x (yyX a n g m x t (ofNat k) p r q ln (λi i_1=>co i i_1)) q ln)) (λi=>.agg [iV 2,iV (Gk m x (yyX a n g m x t (ofNat k) p r q ln (λi i_1=>co i i_1)) q ln i).th,iV (Gk m x (yyX a n g m x t (ofNat k) p r q ln (λi i_1=>co i i_1)) q ln i).rg,.str (Gk m x (yyX a n g m x t (ofNat k) p r q ln (λi i_1=>co i i_1)) q ln i).lc,iV (Td m x (yyX a n g m x t (ofNat k) p r q ln (λi i_1=>co i i_1)) q ln i),.nilS])]=true) (hp0:p0 (Vs (onP 0 p0 (en6e a n g m x t k p r q ln co nm b tx lw cw y cf kW kX kf k1 k2 k3 k4 k5) L)) (ent6 a n g m x t k p r q ln co nm)=true):(Ay (Ai tab ⟨Am NW,onP 0 p0 (en6e a n g m x t k p r q ln co nm b tx lw cw y cf kW kX kf k1 k2 k3 k4 k5) L,Gl⟩ Tryz.f6 [.agg [iV a,.sl 6 n λi=>eV (g i),.sl 5 m λi=>evV (x i),iV t,nV k,.sl 1 p λi=>iV (r i),.sl 1 q λi=>.sl 1 (ln i) λj=>iV (co i j)],.str nm] [])).sem=some ((.tup [.agg [iV a,.str nm,.str tx,.ref 0,.jref 1,iV 1,iV k1,iV k2,iV k3,.str k4,iV k5,.ref 2],iV 0]),[.row 55 5 b (λi=>.agg [iV (-1),iV 0,.str (BB (ofNat i)),.str [],iV 0]),.jag (Jag.mk 49 1 (toN t) Aa 0 51 8 (λ_=>true) lw (λu j=>.agg [iV (cw u j).op,iV (cw u j).d,iV 0,iV 0,iV (cw u j).imm,.str (cw u j).loc,.str [],iV 0])),.row 35 6 kW (λi=>.agg [iV 2,iV (kX i).th,iV (kX i).rg,.str (kX i).lc,iV (kf i),.nilS])]):=by
 exact Ac (ks:=[kL n,kL m,kL p,kn h36,kn h37,kA (kn h38) (kA (kn h39) (kA (kn h40) (kA (kn h41) (kn h42)))),kN (kn h43),kN (kn h1),kL n,kL m,kL p,kn h36,kn h44,kL n,kn h37,kn h45,kn h46,kL n,kn h37,kI a,kn h47,kn h48,kn h46,kL n,kL m,kL p,kn h36,kL m,kn h49,kn h50,kI a,kn h47,kn h48,kI a,kn h47,kn h48,kn hp0]) (by kernel_rfl)
section
variable (a:Int) (n:Nat) (g:Nat->E6) (m:Nat) (x:Nat->Ev5) (t:Int) (k:Nat) (p:Nat) (r:Nat->Int) (q:Nat) (ln:Nat->Nat) (co:Nat->Nat->Int) (nm:List UInt8) (tx:List UInt8) (lw:Nat->Nat) (cw:Nat->Nat->In4) (y:Nat->Int) (cf:Nat->E6) (kW:Nat) (kX:Nat->Tg) (kf:Nat->Int) (k1 k2 k3:Int) (k4:List UInt8) (k5:Int)
theorem AlP (M:LT) (hk:k <= 1023):∀ (d b:Nat) (j:Nat->V),k=b+d->LRun ⟨Am NW,Gl⟩ (Vs M) (st6 a n g m x t k p r q ln co nm b tx lw cw y cf kW kX kf k1 k2 k3 k4 k5 j) (en6e a n g m x t k p r q ln co nm k tx lw cw y cf kW kX kf k1 k2 k3 k4 k5)
 | 0,b,j,h=>by
  have:k=b:=by omega
  subst this;exact LRun.exit (r6e M a n g m x t k p r q ln co nm k tx lw cw y cf kW kX kf k1 k2 k3 k4 k5 j (Aw (Nat.le_refl _))) (by simp)
 | d+1,b,j,h=>by
  have hb:b<k:=by omega
  have h1:=r6n M a n g m x t k p r q ln co nm b tx lw cw y cf kW kX kf k1 k2 k3 k4 k5 j (ofNat_lt hb) (decide_eq_true (by omega));rw [Ap hb (by omega)] at h1;refine LRun.round h1 (Ft (i:=7) (n:=b+1) (g':=Do) rfl λi _=>?_) (AlP M hk d (b+1) Aa (by omega));show Do i=As b Do (Do b) i;rw [Bo];cases hi:Nat.beq i b with
  | true=>rw [Nat.eq_of_beq_eq_true hi]; rfl
  | false=>rfl
end
theorem ent6_eq (a:Int) (n:Nat) (g:Nat->E6) (m:Nat) (x:Nat->Ev5) (t:Int) (k:Nat) (p:Nat) (r:Nat->Int) (q:Nat) (ln:Nat->Nat) (co:Nat->Nat->Int) (nm:List UInt8):(⟨(ent6 a n g m x t k p r q ln co nm).t,(ent6 a n g m x t k p r q ln co nm).h.set 7 (.row 55 5 0 Do)⟩:St)=st6 a n g m x t k p r q ln co nm 0 (Dn n λi=>AY n g i) (lwX a n g m x t (ofNat k) p r q ln co) (cwX a n g m x t (ofNat k) p r q ln co) (yyX a n g m x t (ofNat k) p r q ln co) (AY n g)
  (IZ (Eu m x (yyX a n g m x t (ofNat k) p r q ln co) q ln)) (Gk m x (yyX a n g m x t (ofNat k) p r q ln co) q ln) (Td m x (yyX a n g m x t (ofNat k) p r q ln co) q ln)
  (PD (Eu m x (yyX a n g m x t (ofNat k) p r q ln co) q ln)) (DJ (Eu m x (yyX a n g m x t (ofNat k) p r q ln co) q ln) (Gk m x (yyX a n g m x t (ofNat k) p r q ln co) q ln)).th (DJ (Eu m x (yyX a n g m x t (ofNat k) p r q ln co) q ln) (Gk m x (yyX a n g m x t (ofNat k) p r q ln co) q ln)).rg (DJ (Eu m x (yyX a n g m x t (ofNat k) p r q ln co) q ln) (Gk m x (yyX a n g m x t (ofNat k) p r q ln co) q ln)).lc
  (PE (Eu m x (yyX a n g m x t (ofNat k) p r q ln co) q ln) (Td m x (yyX a n g m x t (ofNat k) p r q ln co) q ln)) (λi=>nth (ent6 a n g m x t k p r q ln co nm).t i):=by kernel_rfl
theorem p6t:Ax Tryz.prog Gl 6 AaK:=by
 refine Aj A7 mixed Tryz.func6 (by kernel_rfl) (by kernel_rfl) λvs v h' h=>?_;unfold AaK at h;split at h
 ·rename_i v1 nm
  obtain ⟨s,a1,h⟩:=apS_some h;obtain ⟨hf,h⟩:=Ad h;obtain ⟨hn,h⟩:=Ad h;obtain ⟨a,n,g,m,x,t,kk,p,r,q,C⟩:=s;obtain ⟨ln,co,hC⟩:∃ (ln:Nat->Nat) (co:Nat->Nat->Int),C=λu=>(ln u,co u):=⟨λu=>(C u).1,λu=>(C u).2,rfl⟩;subst hC;have hn:Af n=true∧Af m=true∧Af p=true∧Af q=true∧(A4 q λi=>Af (ln i))=true:=by simpa [BG,Ao] using hn
  obtain ⟨n1,n2,n3,n4,n5⟩:=hn;have hA:Bj [v1,.str nm] [.agg [iV a,.sl 6 n (λi=>eV (g i)),.sl 5 m (λi=>evV (x i)),iV t,iV kk,.sl 1 p (λi=>iV (r i)),.sl 1 q (λu=>.sl 1 (ln u) (λi=>iV (co u i)))],.str nm]:=λS w cs hv=>by
   obtain ⟨c,l,rfl,q1,q2⟩:=hv;exact ⟨c,_,rfl,a1 S w c q1,q2⟩
  have hc0:Bv Tryz.prog ⟨Am NW,Gl⟩:=(AH Aer [] (G:=Gl)).1;cases hr:ieq (rtS ⟨a,n,g,m,x,t,kk,p,r,q,λu=>(ln u,co u)⟩) 0 with
  | false =>rw [hr] at h;have:=Ab (show (T.leaf _).sem=_ from h);simp only [Prod.mk.injEq] at this;obtain ⟨rfl,rfl⟩:=this;exact ⟨_,⟨Am NW,noL,Gl⟩,_,hA,rfl,hc0,GO,w6a noL a n g m x t kk p r q ln co nm (CN () ()) hf n1 n2 n3 n4 n5 hr,Av.refl _⟩
  | true =>
   rw [hr] at h;have h:(T.br (Nk nm) (.br (Rq ⟨a,n,g,m,x,t,kk,p,r,q,λu=>(ln u,co u)⟩) (.leaf (.tup [Qc ⟨a,n,g,m,x,t,kk,p,r,q,λu=>(ln u,co u)⟩ nm,iV 0],Tx ⟨a,n,g,m,x,t,kk,p,r,q,λu=>(ln u,co u)⟩)) .fail) (.leaf (.tup [O3,iV 130],KB))).sem=some (v,h'):=h;cases ht:Nk nm with
   | false =>rw [ht] at h;have:=Ab (show (T.leaf _).sem=_ from h);simp only [Prod.mk.injEq] at this;obtain ⟨rfl,rfl⟩:=this;exact ⟨_,⟨Am NW,noL,Gl⟩,_,hA,rfl,hc0,GO,w6b noL a n g m x t kk p r q ln co nm (CN () ()) hf n1 n2 n3 n4 n5 hr ht,Av.refl _⟩
   | true =>
    rw [ht] at h;obtain ⟨hg,h⟩:=Ad (show (T.br _ _ .fail).sem=_ from h);have:=Ab h;simp only [Prod.mk.injEq] at this;obtain ⟨rfl,rfl⟩:=this;simp only [Rq,Bool.and_eq_true] at hg;obtain ⟨g1,g2,g3,g4,g5⟩:=hg;obtain ⟨k,hk⟩:∃ k:Nat,kk=ofNat k:=⟨toN kk,by simpa [ieq] using g1⟩;subst hk;have g2:k <= 1023:=Nat.le_of_ble_eq_true g2
    let r6:=en6e a n g m x t k p r q ln co nm k (Dn n λi=>AY n g i) (lwX a n g m x t (ofNat k) p r q ln co) (cwX a n g m x t (ofNat k) p r q ln co) (yyX a n g m x t (ofNat k) p r q ln co) (AY n g)
     (IZ (Eu m x (yyX a n g m x t (ofNat k) p r q ln co) q ln)) (Gk m x (yyX a n g m x t (ofNat k) p r q ln co) q ln) (Td m x (yyX a n g m x t (ofNat k) p r q ln co) q ln)
     (PD (Eu m x (yyX a n g m x t (ofNat k) p r q ln co) q ln)) (DJ (Eu m x (yyX a n g m x t (ofNat k) p r q ln co) q ln) (Gk m x (yyX a n g m x t (ofNat k) p r q ln co) q ln)).th (DJ (Eu m x (yyX a n g m x t (ofNat k) p r q ln co) q ln) (Gk m x (yyX a n g m x t (ofNat k) p r q ln co) q ln)).rg (DJ (Eu m x (yyX a n g m x t (ofNat k) p r q ln co) q ln) (Gk m x (yyX a n g m x t (ofNat k) p r q ln co) q ln)).lc
     (PE (Eu m x (yyX a n g m x t (ofNat k) p r q ln co) q ln) (Td m x (yyX a n g m x t (ofNat k) p r q ln co) q ln))
    have hrun:∀ M,LRun ⟨Am NW,Gl⟩ (Vs M) (ent6 a n g m x t k p r q ln co nm) r6:=λM=>by
     refine .weak (Ft (i:=7) (n:=0) (g':=Do) rfl λ_ hq=>absurd hq (Nat.not_lt_zero _)) ?_;rw [ent6_eq];exact AlP a n g m x t k p r q ln co nm _ _ _ _ _ _ _ _ _ _ _ _ _ M g2 k 0 _ (by omega)
    exact ⟨_,⟨Am NW,_,Gl⟩,_,hA,rfl,hc0,HH (k:=0) (r:=r6) GO,w6o noL _ a n g m x t k p r q ln co nm k _ _ _ _ _ _ _ _ _ _ _ _ _ (CN () ()) hf n1 n2 n3 n4 n5 hr ht g3 g4 (by simp [BJ]) (Dh _) (Dh _) g5 (P7 _ _ _) (E1 (hrun _)),Av.refl _⟩
 ·cases h
end Go.Proofs.YtkgdhhieomndeaaGreatDoor.Em
namespace Go.Proofs.YtkgdhhieomndeaaGreatDoor.Sh
open Go.Sy Ed
set_option maxHeartbeats 1000000
set_option maxRecDepth 4000
def Adu (e:E6):Bool:=ieq e.src 1 || ieq e.src 2
theorem Aac:(List.range 112).all (λk=>Adu (Dv k))=true:=by kernel_rfl
theorem Aqc {e:E6} (h:Bd e=0):Adu e=true:=by
 rcases Er e with ⟨k,hk,_,_,he,_⟩ | ⟨h2,_⟩
 ·rw [<- he]
  exact List.all_eq_true.1 Aac k (by simpa using hk)
 ·rw [h2] at h
  cases h
theorem XQ {lw:Nat->Nat} {u i:Nat} (h:i ≠ u):Gp lw u i=lw i:=by unfold Gp; rw [Go.Sy.nbeq_ne h]; rfl
theorem Jm (lw:Nat->Nat) (u:Nat):Gp lw u u=lw u+1:=by unfold Gp; rw [nbeq_self]; rfl
theorem XR {lw:Nat->Nat} {cw:Nat->Nat->In4} {v:In4} {u i:Nat} (h:i ≠ u):JS lw cw u v i=cw i:=by funext j; unfold JS; rw [Go.Sy.nbeq_ne h]; rfl
theorem Y4 (fe:Bool) (x:Ev5) (b:Nat) (W:Wr4):(evW fe x b W).lw=Gp (bif fe then Gp W.lw (toN x.th) else W.lw) (toN x.th):=by
 unfold evW; cases fe <;> cases ieq x.dir 2 <;> rfl
theorem Y5 (fe:Bool) (x:Ev5) (b:Nat) (W:Wr4) :
  (evW fe x b W).cw=JS (bif fe then Gp W.lw (toN x.th) else W.lw) (bif fe then JS W.lw W.cw (toN x.th) Gc else W.cw) (toN x.th) (Sz x W):=by
 unfold evW; cases fe <;> cases ieq x.dir 2 <;> rfl
theorem AnJ {fe:Bool} {x:Ev5} {b:Nat} {W:Wr4} {u:Nat} (h:toN x.th ≠ u):(evW fe x b W).lw u=W.lw u∧(evW fe x b W).cw u=W.cw u:=by
 have h:=Ne.symm h;rw [Y4,Y5,XQ h,XR h];cases fe
 ·exact ⟨rfl,rfl⟩
 ·exact ⟨XQ h,XR h⟩
theorem AaJ {n:Nat} {g:Nat->E6} {d:Nat->Bool} (hl:obF g (n-1)=true) {i:Nat} (hi:i<n):(evF n g d i).th=Int.ofNat (An (obF g) i):=by
 rw [CH hi];show AG (obF g) n i=_;rw [Ey hi];unfold AZ;rw [if_neg (by have:=before hi hl; omega)]
theorem UQ {e:E6} (h:AB e=true):ieq e.kind 5=false:=by
 cases hc:ieq e.kind 5 with
 | false=>rfl
 | true =>have hk:=BX hc;have:=Afd (Ad2 (e:=e) (by rw [hk]; rfl) (by rw [hk]; rfl) (by rw [hk]; rfl));rw [this] at h;cases h
end Go.Proofs.YtkgdhhieomndeaaGreatDoor.Sh
namespace Go.Proofs.YtkgdhhieomndeaaGreatDoor.Sh
open Go.Sy Ed
set_option maxHeartbeats 1000000
set_option maxRecDepth 4000
end Go.Proofs.YtkgdhhieomndeaaGreatDoor.Sh
