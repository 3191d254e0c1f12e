/-
  A shape's condition (emitx.asked), of shapes that may be. No conditions.
-/
import Derived.Test.YtkgdhhieomndeaaGreatDoorShE
import Derived.Test.YtkgdhhieomndeaaGreatDoorShL
import Derived.Test.YtkgdhhieomndeaaGreatDoorShI
namespace Go.Proofs.YtkgdhhieomndeaaGreatDoor.Em
open Go.Sy Go Go.Proofs.YtkgdhhieomndeaaGreatDoor.Ed Go.Proofs.YtkgdhhieomndeaaGreatDoor.Sh
open Int (ofNat)
set_option maxRecDepth 100000
def IG (n:Nat):Bool:=Nat.ble n 1023
def tgA (n:Nat) (X:Nat->Tg):Bool:=A4 n λi=>tgB (X i).th (X i).rg (X i).lc
def AbU (n:Nat) (f:Nat->Int):Bool:=A4 n λi=>FT (f i)
noncomputable def AaW:AK:=(41,Xx)::(42,Ac2)::(20,OK)::(43,allT)::[]
theorem Ae8:Aq Tryz.prog Gl AaW:=.cons p34 <| .cons p27 <| .cons p37 <| .cons p46 .nil
def Nn (_:Int) (_:Nat) (_:Nat->E6) (m:Nat) (_:Nat->Ev5) (_ _:Int) (_:Nat) (_:Nat->Int) (_:Nat) (_:Nat->Nat) (_:Nat->Nat->Int) (_:Nat) (_:Nat->Int):Lp:=⟨bmK 87 0 [1,2,4,5,6,20,21,22],4,bmK 87 0 [2,4,5,6],4,m+1⟩
def VM (a:Int) (n:Nat) (g:Nat->E6) (m:Nat) (x:Nat->Ev5) (t k:Int) (p:Nat) (r:Nat->Int) (q:Nat) (ln:Nat->Nat) (co:Nat->Nat->Int) (z:Nat) (rg:Nat->Int) (b c:Nat) (Y:Nat->Tg) (W:Nat->Int) (j:Nat->V):St:=⟨jsV 87 0 j [(1,.sl 1 z λi=>iV (rg i)),(2,.ptr 0 0),(4,.ptr 1 0),(5,.ref 2),(6,.ref 3),(20,.sl 5 m λi=>evV (x i)),(21,nV m),(22,nV b)],[.cells [iV a,.sl 6 n λi=>eV (g i),.sl 5 m λi=>evV (x i),iV t,iV k,.sl 1 p λi=>iV (r i),.sl 1 q λi=>.sl 1 (ln i) λj=>iV (co i j)],.cells [iV 0,iV 0,iV 0,iV 0,.str [],iV 0,.nilS],.row 32 3 c (λi=>tgV (Y i)),.row 3 1 c (λi=>iV (W i))]⟩
def Ve (a:Int) (n:Nat) (g:Nat->E6) (m:Nat) (x:Nat->Ev5) (t k:Int) (p:Nat) (r:Nat->Int) (q:Nat) (ln:Nat->Nat) (co:Nat->Nat->Int) (_:Nat) (_:Nat->Int) (_ c:Nat) (Y:Nat->Tg) (W:Nat->Int):Ex×St:=(.ex 0,⟨jsV 87 0 Aa [(2,.ptr 0 0),(4,.ptr 1 0),(5,.ref 2),(6,.ref 3)],[.cells [iV a,.sl 6 n λi=>eV (g i),.sl 5 m λi=>evV (x i),iV t,iV k,.sl 1 p λi=>iV (r i),.sl 1 q λi=>.sl 1 (ln i) λj=>iV (co i j)],.cells [iV 0,iV 0,iV 0,iV 0,.str [],iV 0,.nilS],.row 32 3 c (λi=>tgV (Y i)),.row 3 1 c (λi=>iV (W i))]⟩)
noncomputable def IS (L:LT):St->T (Ex×St):=λst=>AD tab ⟨Am AaW,L,Gl⟩ (Au Tryz.f19 0) 0 st
section
variable (L:LT) (a:Int) (n:Nat) (g:Nat->E6) (m:Nat) (x:Nat->Ev5) (t k:Int) (p:Nat) (r:Nat->Int) (q:Nat) (ln:Nat->Nat) (co:Nat->Nat->Int) (z:Nat) (rg:Nat->Int) (b c:Nat) (Y:Nat->Tg) (W:Nat->Int)  (j:Nat->V)
include L a n g m x t k p r q ln co z rg b c Y W j
theorem Apt (h0:ilt (ofNat b) (ofNat m)=false):Al (IS L) (Nn a n g m x t k p r q ln co z rg) (VM a n g m x t k p r q ln co z rg b c Y W j)=some ((.ex 0),⟨jsV 87 0 Aa [(2,.ptr 0 0),(4,.ptr 1 0),(5,.ref 2),(6,.ref 3)],[.cells [iV a,.sl 6 n (λi=>eV (g i)),.sl 5 m (λi=>.agg [iV (x i).th,iV (x i).pl,iV (x i).dir,iV (x i).loc,iV (x i).val]),iV t,iV k,.sl 1 p (λi=>iV (r i)),.sl 1 q (λi=>.sl 1 (ln i) (λj=>iV (co i j)))],.cells [iV 0,iV 0,iV 0,iV 0,.str [],iV 0,.nilS],.row 32 3 c (λi=>.agg [iV (Y i).th,iV (Y i).rg,.str (Y i).lc]),.row 3 1 c (λi=>iV (W i))]⟩):=by
 exact Ac (ks:=[kn h0]) (by kernel_rfl)
theorem Aps (h0:ilt (ofNat b) (ofNat m)=true) (h33:ile 0 (ofNat b)=true) (h1:ieq (x b).dir 1=true) (h34:Ao (ile 0 (ofNat b)) (ilt (ofNat b) (ofNat z))=true) (h35:Bn c 1 32=true) (h36:Bn c 1 8=true):Al (IS L) (Nn a n g m x t k p r q ln co z rg) (VM a n g m x t k p r q ln co z rg b c Y W j)=some (.nm,⟨jsV 87 0 Aa [(1,.sl 1 z (λi=>iV (rg i))),(2,.ptr 0 0),(4,.ptr 1 0),(5,.ref 2),(6,.ref 3),(20,.sl 5 m (λi=>.agg [iV (x i).th,iV (x i).pl,iV (x i).dir,iV (x i).loc,iV (x i).val])),(21,nV m),(22,iV (wr .i64 (Ak (ofNat b) 1)))],[.cells [iV a,.sl 6 n (λi=>eV (g i)),.sl 5 m (λi=>.agg [iV (x i).th,iV (x i).pl,iV (x i).dir,iV (x i).loc,iV (x i).val]),iV t,iV k,.sl 1 p (λi=>iV (r i)),.sl 1 q (λi=>.sl 1 (ln i) (λj=>iV (co i j)))],.cells [iV 0,iV 0,iV 0,iV 0,.str [],iV 0,.nilS],.row 32 3 (AV c 1) (As c (λi=>.agg [iV (Y i).th,iV (Y i).rg,.str (Y i).lc]) (.agg [iV (x b).th,iV (rg b),.str []])),.row 3 1 (AV c 1) (As c (λi=>iV (W i)) (iV (x b).val))]⟩):=by
 exact Ac (ks:=[kn h0,kA (kn h33) (kn h0),kn h1,kn h34,kn h35,kn h36]) (by kernel_rfl)
theorem Apr (h0:ilt (ofNat b) (ofNat m)=true) (h33:ile 0 (ofNat b)=true) (h1:ieq (x b).dir 1=false):Al (IS L) (Nn a n g m x t k p r q ln co z rg) (VM a n g m x t k p r q ln co z rg b c Y W j)=some (.nm,⟨jsV 87 0 Aa [(1,.sl 1 z (λi=>iV (rg i))),(2,.ptr 0 0),(4,.ptr 1 0),(5,.ref 2),(6,.ref 3),(20,.sl 5 m (λi=>.agg [iV (x i).th,iV (x i).pl,iV (x i).dir,iV (x i).loc,iV (x i).val])),(21,nV m),(22,iV (wr .i64 (Ak (ofNat b) 1)))],[.cells [iV a,.sl 6 n (λi=>eV (g i)),.sl 5 m (λi=>.agg [iV (x i).th,iV (x i).pl,iV (x i).dir,iV (x i).loc,iV (x i).val]),iV t,iV k,.sl 1 p (λi=>iV (r i)),.sl 1 q (λi=>.sl 1 (ln i) (λj=>iV (co i j)))],.cells [iV 0,iV 0,iV 0,iV 0,.str [],iV 0,.nilS],.row 32 3 c (λi=>.agg [iV (Y i).th,iV (Y i).rg,.str (Y i).lc]),.row 3 1 c (λi=>iV (W i))]⟩):=by
 exact Ac (ks:=[kn h0,kA (kn h33) (kn h0),kn h1]) (by kernel_rfl)
end
def QK (a:Int) (n:Nat) (g:Nat->E6) (m:Nat) (x:Nat->Ev5) (t k:Int) (p:Nat) (r:Nat->Int) (q:Nat) (ln:Nat->Nat) (co:Nat->Nat->Int) (z:Nat) (rg:Nat->Int) :St:=⟨jsV 87 0 (λ_=>A9) [(0,.agg [iV a,.sl 6 n (λi=>eV (g i)),.sl 5 m (λi=>.agg [iV (x i).th,iV (x i).pl,iV (x i).dir,iV (x i).loc,iV (x i).val]),iV t,iV k,.sl 1 p (λi=>iV (r i)),.sl 1 q (λi=>.sl 1 (ln i) (λj=>iV (co i j)))]),(1,.sl 1 z (λi=>iV (rg i))),(2,.ptr 0 0),(4,.ptr 1 0),(5,.ref 2),(6,.ref 3),(19,.ptr 0 2),(20,.sl 5 m (λi=>.agg [iV (x i).th,iV (x i).pl,iV (x i).dir,iV (x i).loc,iV (x i).val])),(21,nV m),(22,iV 0)],[.cells [iV a,.sl 6 n (λi=>eV (g i)),.sl 5 m (λi=>.agg [iV (x i).th,iV (x i).pl,iV (x i).dir,iV (x i).loc,iV (x i).val]),iV t,iV k,.sl 1 p (λi=>iV (r i)),.sl 1 q (λi=>.sl 1 (ln i) (λj=>iV (co i j)))],.cells [iV 0,iV 0,iV 0,iV 0,.str [],iV 0,.nilS],.row 32 3 0 Aa,.row 3 1 0 Aa]⟩
def Ld (a:Int) (n:Nat) (g:Nat->E6) (m:Nat) (x:Nat->Ev5) (t k:Int) (p:Nat) (r:Nat->Int) (q:Nat) (ln:Nat->Nat) (co:Nat->Nat->Int) (_:Nat) (_:Nat->Int) (_ c:Nat) (Y:Nat->Tg) (W:Nat->Int):St:=⟨jsV 87 0 Aa [(2,.ptr 0 0),(4,.ptr 1 0),(5,.ref 2),(6,.ref 3),(9,.ref 4),(10,iV 0),(11,.ref 5),(12,iV 0),(46,.tup [.ref 4,iV 0]),(47,.agg [iV a,.sl 6 n (λi=>eV (g i)),.sl 5 m (λi=>.agg [iV (x i).th,iV (x i).pl,iV (x i).dir,iV (x i).loc,iV (x i).val]),iV t,iV k,.sl 1 p (λi=>iV (r i)),.sl 1 q (λi=>.sl 1 (ln i) (λj=>iV (co i j)))]),(48,.tup [.ref 4,iV 0]),(49,.ref 4),(50,iV 0),(51,.tup [.ref 5,iV 0]),(52,.agg [iV a,.sl 6 n (λi=>eV (g i)),.sl 5 m (λi=>.agg [iV (x i).th,iV (x i).pl,iV (x i).dir,iV (x i).loc,iV (x i).val]),iV t,iV k,.sl 1 p (λi=>iV (r i)),.sl 1 q (λi=>.sl 1 (ln i) (λj=>iV (co i j)))]),(53,.tup [.ref 5,iV 0]),(54,.ref 5),(55,iV 0),(56,.ref 4),(57,iV (ofNat (An (λk=>ieq (ofNat (ln k)) 2) q))),(58,iV 0)],[.cells [iV a,.sl 6 n (λi=>eV (g i)),.sl 5 m (λi=>.agg [iV (x i).th,iV (x i).pl,iV (x i).dir,iV (x i).loc,iV (x i).val]),iV t,iV k,.sl 1 p (λi=>iV (r i)),.sl 1 q (λi=>.sl 1 (ln i) (λj=>iV (co i j)))],.cells [iV 0,iV 0,iV 0,iV 0,.str [],iV 0,.nilS],.row 32 3 c (λi=>.agg [iV (Y i).th,iV (Y i).rg,.str (Y i).lc]),.row 3 1 c (λi=>iV (W i)),.row 3 1 (An (λk=>ieq (ofNat (ln k)) 2) q) (λk=>iV (ofNat (TO (λk=>ieq (ofNat (ln k)) 2) q k))),.row 3 1 q (λk=>iV (ofNat (ln k)))]⟩
def GQ (_:Int) (_:Nat) (_:Nat->E6) (_:Nat) (_:Nat->Ev5) (_ _:Int) (_:Nat) (_:Nat->Int) (q:Nat) (_:Nat->Nat) (_:Nat->Nat->Int) (_:Nat) (_:Nat->Int):Lp:=⟨bmK 87 0 [2,4,5,6,11,56,57,58],6,bmK 87 0 [2,4,5,6],4,q+1⟩
def Of (a:Int) (n:Nat) (g:Nat->E6) (m:Nat) (x:Nat->Ev5) (t k:Int) (p:Nat) (r:Nat->Int) (q:Nat) (ln:Nat->Nat) (co:Nat->Nat->Int) (_:Nat) (_:Nat->Int) (A:Nat) (s1:Nat->Nat) (b c:Nat) (Y:Nat->Tg) (W:Nat->Int) (j:Nat->V):St:=⟨jsV 87 0 j [(2,.ptr 0 0),(4,.ptr 1 0),(5,.ref 2),(6,.ref 3),(11,.ref 5),(56,.ref 4),(57,nV A),(58,nV b)],[.cells [iV a,.sl 6 n λi=>eV (g i),.sl 5 m λi=>evV (x i),iV t,iV k,.sl 1 p λi=>iV (r i),.sl 1 q λi=>.sl 1 (ln i) λj=>iV (co i j)],.cells [iV 0,iV 0,iV 0,iV 0,.str [],iV 0,.nilS],.row 32 3 c (λi=>tgV (Y i)),.row 3 1 c (λi=>iV (W i)),.row 3 1 A (λi=>iV (ofNat (s1 i))),.row 3 1 q (λi=>iV (ofNat (ln i)))]⟩
def Lm (a:Int) (n:Nat) (g:Nat->E6) (m:Nat) (x:Nat->Ev5) (t k:Int) (p:Nat) (r:Nat->Int) (q:Nat) (ln:Nat->Nat) (co:Nat->Nat->Int) (_:Nat) (_:Nat->Int) (_:Nat) (_:Nat->Nat) (_ c:Nat) (Y:Nat->Tg) (W:Nat->Int):Ex×St:=(.ex 2,⟨jsV 87 0 Aa [(2,.ptr 0 0),(4,.ptr 1 0),(5,.ref 2),(6,.ref 3)],[.cells [iV a,.sl 6 n λi=>eV (g i),.sl 5 m λi=>evV (x i),iV t,iV k,.sl 1 p λi=>iV (r i),.sl 1 q λi=>.sl 1 (ln i) λj=>iV (co i j)],.cells [iV 0,iV 0,iV 0,iV 0,.str [],iV 0,.nilS],.row 32 3 c (λi=>tgV (Y i)),.row 3 1 c (λi=>iV (W i))]⟩)
noncomputable def H3 (L:LT):St->T (Ex×St):=λst=>AD tab ⟨Am AaW,L,Gl⟩ (Au Tryz.f19 2) 2 st
section
variable (L:LT) (a:Int) (n:Nat) (g:Nat->E6) (m:Nat) (x:Nat->Ev5) (t k:Int) (p:Nat) (r:Nat->Int) (q:Nat) (ln:Nat->Nat) (co:Nat->Nat->Int) (z:Nat) (rg:Nat->Int) (A:Nat) (s1:Nat->Nat) (b c:Nat) (Y:Nat->Tg) (W:Nat->Int)  (j:Nat->V)
include L a n g m x t k p r q ln co z rg A s1 b c Y W j
theorem AjI (h0:ilt (ofNat b) (ofNat A)=false):Al (H3 L) (GQ a n g m x t k p r q ln co z rg) (Of a n g m x t k p r q ln co z rg A s1 b c Y W j)=some ((.ex 2),⟨jsV 87 0 Aa [(2,.ptr 0 0),(4,.ptr 1 0),(5,.ref 2),(6,.ref 3)],[.cells [iV a,.sl 6 n (λi=>eV (g i)),.sl 5 m (λi=>.agg [iV (x i).th,iV (x i).pl,iV (x i).dir,iV (x i).loc,iV (x i).val]),iV t,iV k,.sl 1 p (λi=>iV (r i)),.sl 1 q (λi=>.sl 1 (ln i) (λj=>iV (co i j)))],.cells [iV 0,iV 0,iV 0,iV 0,.str [],iV 0,.nilS],.row 32 3 c (λi=>.agg [iV (Y i).th,iV (Y i).rg,.str (Y i).lc]),.row 3 1 c (λi=>iV (W i))]⟩):=by
 exact Ac (ks:=[kn h0]) (by kernel_rfl)
theorem AjH (h0:ilt (ofNat b) (ofNat A)=true) (h32:ile 0 (ofNat b)=true) (h33:nlt b A=true) (h34:Bn c 1 32=true) (h36:Ao (ile 0 (ofNat (s1 b))) (ilt (ofNat (s1 b)) (ofNat q))=true) (h37:nlt (s1 b) q=true) (h38:Bn c 1 8=true):Al (H3 L) (GQ a n g m x t k p r q ln co z rg) (Of a n g m x t k p r q ln co z rg A s1 b c Y W j)=some (.nm,⟨jsV 87 0 Aa [(2,.ptr 0 0),(4,.ptr 1 0),(5,.ref 2),(6,.ref 3),(11,.ref 5),(56,.ref 4),(57,nV A),(58,iV (wr .i64 (Ak (ofNat b) 1)))],[.cells [iV a,.sl 6 n (λi=>eV (g i)),.sl 5 m (λi=>.agg [iV (x i).th,iV (x i).pl,iV (x i).dir,iV (x i).loc,iV (x i).val]),iV t,iV k,.sl 1 p (λi=>iV (r i)),.sl 1 q (λi=>.sl 1 (ln i) (λj=>iV (co i j)))],.cells [iV 0,iV 0,iV 0,iV 0,.str [],iV 0,.nilS],.row 32 3 (AV c 1) (As c (λi=>.agg [iV (Y i).th,iV (Y i).rg,.str (Y i).lc]) (.agg [iV (-1),iV 0,.str (BB (ofNat (s1 b)))])),.row 3 1 (AV c 1) (As c (λi=>iV (W i)) (iV (ofNat (ln (s1 b))))),.row 3 1 A (λi=>iV (ofNat (s1 i))),.row 3 1 q (λi=>iV (ofNat (ln i)))]⟩):=by
 exact Ac (ks:=[kn h0,kA (kn h32) (kn h0),kn h33,kn h34,kn h36,kn h37,kn h38]) (by kernel_rfl)
end
theorem w21 (L:LT) (p0:PT) (p2:PT) (a:Int) (n:Nat) (g:Nat->E6) (m:Nat) (x:Nat->Ev5) (t k:Int) (p:Nat) (r:Nat->Int) (q:Nat) (ln:Nat->Nat) (co:Nat->Nat->Int) (z:Nat) (rg:Nat->Int) (b c:Nat) (Y:Nat->Tg) (W:Nat->Int) (A:Nat) (s1:Nat->Nat) (b2 c2:Nat) (Y2:Nat->Tg) (W2:Nat->Int) (h31:A4 q (λi=>A4 (ln i) (λ_=>true))=true) (h32:BC n=true) (h33:E9 q=true) (h34:Af n=true) (h35:Af m=true) (h36:Af p=true) (h37:Af q=true) (h38:A4 q (λi=>Af (ln i))=true) (h39:Cj (Sh7.mk a n g m x t k p r q (λi=>((ln i),co i)))=true) (h40:IG c2=true) (h41:tgA c2 Y2=true) (h42:AbU c2 W2=true) (h43:Cb [.row 35 6 (IZ c2) (λi=>.agg [iV 2,iV (Y2 i).th,iV (Y2 i).rg,.str (Y2 i).lc,iV (W2 i),.nilS])]=true) (hp0:p0 (IS (onP 0 p0 (Ve a n g m x t k p r q ln co z rg b c Y W) (onP 2 p2 (Lm a n g m x t k p r q ln co z rg A s1 b2 c2 Y2 W2) L))) (QK a n g m x t k p r q ln co z rg)=true) (hp2:p2 (H3 (onP 0 p0 (Ve a n g m x t k p r q ln co z rg b c Y W) (onP 2 p2 (Lm a n g m x t k p r q ln co z rg A s1 b2 c2 Y2 W2) L))) (Ld a n g m x t k p r q ln co z rg b c Y W)=true):(Ay (Ai tab ⟨Am AaW,onP 0 p0 (Ve a n g m x t k p r q ln co z rg b c Y W) (onP 2 p2 (Lm a n g m x t k p r q ln co z rg A s1 b2 c2 Y2 W2) L),Gl⟩ Tryz.f19 [.agg [iV a,.sl 6 n λi=>eV (g i),.sl 5 m λi=>evV (x i),iV t,iV k,.sl 1 p λi=>iV (r i),.sl 1 q λi=>.sl 1 (ln i) λj=>iV (co i j)],.sl 1 z λi=>iV (rg i)] [])).sem=some ((.agg [iV 1,iV (PD c2),iV (DJ c2 Y2).th,iV (DJ c2 Y2).rg,.str (DJ c2 Y2).lc,iV (PE c2 W2),.ref 0]),[.row 35 6 (IZ c2) (λi=>.agg [iV 2,iV (Y2 i).th,iV (Y2 i).rg,.str (Y2 i).lc,iV (W2 i),.nilS])]):=by
 exact Ac (ks:=[kn hp0,kL n,kL m,kL p,kn h31,kn h32,kn h33,kA (kn h34) (kA (kn h35) (kA (kn h36) (kA (kn h37) (kn h38)))),kn h39,kL n,kL m,kL p,kn h31,kn h32,kn h33,kA (kn h34) (kA (kn h35) (kA (kn h36) (kA (kn h37) (kn h38)))),kn h39,kn hp2,kL c2,kL c2,kJ c2,kn h40,kn h41,kn h42,kn h43]) (by kernel_rfl)
def gT (l:List (Tg×Int)) (i:Nat):Tg:=(l.getD i (⟨0,0,[]⟩,0)).1
def gW (l:List (Tg×Int)) (i:Nat):Int:=(l.getD i (⟨0,0,[]⟩,0)).2
theorem QG {α:Type} (l:List α) (e d:α) (i:Nat):(l++[e]).getD i d=if i=l.length then e else l.getD i d:=by
 simp only [List.getD];by_cases h:i<l.length
 ·rw [List.getElem?_append_left h,if_neg (by omega)]
 ·by_cases h2:i=l.length
  ·subst h2; simp
  ·rw [List.getElem?_append_right (by omega),if_neg h2,List.getElem?_eq_none (by simp; omega),List.getElem?_eq_none (by omega)]
theorem RP (l:List (Tg×Int)) (e:Tg×Int):As l.length (λi=>tgV (gT l i)) (tgV e.1)=λi=>tgV (gT (l++[e]) i):=by
 funext i;rw [Bo];unfold gT;rw [QG];by_cases h:i=l.length
 ·subst h; simp
 ·rw [if_neg h]
  cases hb:Nat.beq i l.length with
  | true=>exact absurd (Nat.eq_of_beq_eq_true hb) h
  | false=>rfl
theorem RO (l:List (Tg×Int)) (e:Tg×Int):As l.length (λi=>iV (gW l i)) (iV e.2)=λi=>iV (gW (l++[e]) i):=by
 funext i;rw [Bo];unfold gW;rw [QG];by_cases h:i=l.length
 ·subst h; simp
 ·rw [if_neg h]
  cases hb:Nat.beq i l.length with
  | true=>exact absurd (Nat.eq_of_beq_eq_true hb) h
  | false=>rfl
def evL (x:Nat->Ev5) (rg:Nat->Int):Nat->List (Tg×Int)
 | 0=>[]
 | i+1=>bif ieq (x i).dir 1 then evL x rg i++[(⟨(x i).th,rg i,[]⟩,(x i).val)] else evL x rg i
def loL (l:List (Tg×Int)) (ln s1:Nat->Nat):Nat->List (Tg×Int)
 | 0=>l
 | b+1=>loL l ln s1 b++[(⟨-1,0,BB (ofNat (s1 b))⟩,ofNat (ln (s1 b)))]
theorem Mq (x:Nat->Ev5) (rg:Nat->Int):∀ i,(evL x rg i).length <= i
 | 0=>Nat.le_refl _
 | i+1=>by
  have:=Mq x rg i;rw [evL];cases ieq (x i).dir 1 with
  | true=>show (_++[_]).length <= _; rw [List.length_append]; simp only [List.length_cons,List.length_nil]; omega
  | false=>show (evL x rg i).length <= _; omega
theorem KI (l:List (Tg×Int)) (ln s1:Nat->Nat):∀ b,(loL l ln s1 b).length=l.length+b
 | 0=>rfl
 | b+1=>by rw [loL,List.length_append,KI l ln s1 b]; rfl
def Gm (q:Nat) (ln:Nat->Nat):Nat:=An (λk=>ieq (ofNat (ln k)) 2) q
def Ir (q:Nat) (ln:Nat->Nat) (k:Nat):Nat:=TO (λk=>ieq (ofNat (ln k)) 2) q k
def askL (m:Nat) (x:Nat->Ev5) (rg:Nat->Int) (q:Nat) (ln:Nat->Nat):List (Tg×Int):=loL (evL x rg m) ln (Ir q ln) (Gm q ln)
section
variable (a:Int) (n:Nat) (g:Nat->E6) (m:Nat) (x:Nat->Ev5) (t k:Int) (p:Nat) (r:Nat->Int) (q:Nat) (ln:Nat->Nat) (co:Nat->Nat->Int) (z:Nat) (rg:Nat->Int)
theorem AgX (L:LT) (hm:m <= 140737488355328 / 72) (hz:m <= z):∀ (d i:Nat) (j:Nat->V) (u:Nat),m=i+d->d<u ->
  (A3 (IS L) (Nn a n g m x t k p r q ln co z rg) u (VM a n g m x t k p r q ln co z rg i (evL x rg i).length (gT (evL x rg i)) (gW (evL x rg i)) j)).sem=some (Ve a n g m x t k p r q ln co z rg m (evL x rg m).length (gT (evL x rg m)) (gW (evL x rg m)))
 | 0,i,j,u+1,h,_=>by
  have:m=i:=by omega
  subst this;exact Ae (Apt L a n g m x t k p r q ln co z rg m _ _ _ j (Aw (Nat.le_refl _)))
 | d+1,i,j,u+1,h,h2=>by
  have hi:i<m:=by omega
  have hl:=Mq x rg i;have ih:=AgX L hm hz d (i+1) Aa u (by omega) (by omega);rw [evL] at ih;cases hc:ieq (x i).dir 1 with
  | true =>rw [hc] at ih;rw [Ae (Aps L a n g m x t k p r q ln co z rg i _ _ _ j (ofNat_lt hi) (AX i) hc (Ag (by omega)) (decide_eq_true (by omega)) (decide_eq_true (by omega))),A6,Ap hi (by omega)];have e1:=RP (evL x rg i) (⟨(x i).th,rg i,[]⟩,(x i).val);have e2:=RO (evL x rg i) (⟨(x i).th,rg i,[]⟩,(x i).val);have e3:(evL x rg i++[((⟨(x i).th,rg i,[]⟩,(x i).val):Tg×Int)]).length=AV (evL x rg i).length 1:=List.length_append;have ih:(A3 (IS L) (Nn a n g m x t k p r q ln co z rg) u (VM a n g m x t k p r q ln co z rg (i+1) (evL x rg i++[((⟨(x i).th,rg i,[]⟩,(x i).val):Tg×Int)]).length (gT (evL x rg i++[((⟨(x i).th,rg i,[]⟩,(x i).val):Tg×Int)])) (gW (evL x rg i++[((⟨(x i).th,rg i,[]⟩,(x i).val):Tg×Int)])) Aa)).sem=_:=ih;rw [e3] at ih;unfold VM at ih;rw [<- e1,<- e2] at ih;exact ih
  | false =>rw [hc] at ih;rw [Ae (Apr L a n g m x t k p r q ln co z rg i _ _ _ j (ofNat_lt hi) (AX i) hc),A6,Ap hi (by omega)];exact ih
theorem XI (L:LT) (l:List (Tg×Int)) (A:Nat) (s1:Nat->Nat) (hl:l.length+A <= 1023) (hs:∀ i,i<A->s1 i<q) (hq:q <= 1023):∀ (d i:Nat) (j:Nat->V) (u:Nat),A=i+d->d<u ->
  (A3 (H3 L) (GQ a n g m x t k p r q ln co z rg) u (Of a n g m x t k p r q ln co z rg A s1 i (loL l ln s1 i).length (gT (loL l ln s1 i)) (gW (loL l ln s1 i)) j)).sem=some (Lm a n g m x t k p r q ln co z rg A s1 A (loL l ln s1 A).length (gT (loL l ln s1 A)) (gW (loL l ln s1 A)))
 | 0,i,j,u+1,h,_=>by
  have:A=i:=by omega
  subst this;exact Ae (AjI L a n g m x t k p r q ln co z rg A s1 A _ _ _ j (Aw (Nat.le_refl _)))
 | d+1,i,j,u+1,h,h2=>by
  have hi:i<A:=by omega
  have hll:=KI l ln s1 i;have hsi:=hs i hi;have ih:=XI L l A s1 hl hs hq d (i+1) Aa u (by omega) (by omega);rw [Ae (AjH L a n g m x t k p r q ln co z rg A s1 i _ _ _ j (ofNat_lt hi) (AX i) (decide_eq_true hi) (decide_eq_true (by omega)) (Ag hsi) (decide_eq_true hsi) (decide_eq_true (by omega))),A6,Ap hi (by omega)];have e1:=RP (loL l ln s1 i) (⟨-1,0,BB (ofNat (s1 i))⟩,ofNat (ln (s1 i)));have e2:=RO (loL l ln s1 i) (⟨-1,0,BB (ofNat (s1 i))⟩,ofNat (ln (s1 i)));have e3:(loL l ln s1 i++[((⟨-1,0,BB (ofNat (s1 i))⟩,ofNat (ln (s1 i))):Tg×Int)]).length=AV (loL l ln s1 i).length 1:=List.length_append;rw [loL,e3] at ih;unfold Of at ih;rw [<- e1,<- e2] at ih;exact ih
end
end Go.Proofs.YtkgdhhieomndeaaGreatDoor.Em
namespace Go.Proofs.YtkgdhhieomndeaaGreatDoor.Em
open Go.Sy Go Go.Proofs.YtkgdhhieomndeaaGreatDoor.Ed Go.Proofs.YtkgdhhieomndeaaGreatDoor.Sh
set_option maxRecDepth 100000
def Zg:List (Nat×List (Nat×V)):=[(0,[(2,tgV ⟨0,0,[]⟩),(3,iV 0)])]
section
variable (a:Int) (n:Nat) (g:Nat->E6) (m:Nat) (x:Nat->Ev5) (t k:Int) (p:Nat) (r:Nat->Int) (q:Nat) (ln:Nat->Nat) (co:Nat->Nat->Int) (z:Nat) (rg:Nat->Int)
theorem Ade:Gb (QK a n g m x t k p r q ln co z rg) [(2,tgV ⟨0,0,[]⟩),(3,iV 0)]=VM a n g m x t k p r q ln co z rg 0 0 (gT []) (gW []) (λi=>nth (QK a n g m x t k p r q ln co z rg).t i):=by kernel_rfl
theorem Xb (b c:Nat) (Y:Nat->Tg) (W:Nat->Int):Ld a n g m x t k p r q ln co z rg b c Y W=Of a n g m x t k p r q ln co z rg (Gm q ln) (Ir q ln) 0 c Y W (λi=>nth (Ld a n g m x t k p r q ln co z rg b c Y W).t i):=by kernel_rfl
end
def QX (s:Sh7) (z:Nat) (rg:Nat->Int):Bool :=
 BC s.ne && (E9 s.nc && (BG s && (Cj s && (Nat.ble s.nx 1023 && (Nat.ble s.nx z && (Nat.ble s.nc 1023 &&
  (IG (askL s.nx s.X rg s.nc λi=>(s.C i).1).length && (tgA (askL s.nx s.X rg s.nc λi=>(s.C i).1).length (gT (askL s.nx s.X rg s.nc λi=>(s.C i).1)) && AbU (askL s.nx s.X rg s.nc λi=>(s.C i).1).length (gW (askL s.nx s.X rg s.nc λi=>(s.C i).1))))))))))
def Aoi (l:List (Tg×Int)):V:=.agg [iV 1,iV (PD l.length),iV (DJ l.length (gT l)).th,iV (DJ l.length (gT l)).rg,.str (DJ l.length (gT l)).lc,iV (PE l.length (gW l)),.ref 0]
def AkA:List V->AE
 | [v,w]=>apS v λs=>apG SR w λz rg=>.br (QX s z rg) (.leaf (Aoi (askL s.nx s.X rg s.nc λi=>(s.C i).1),[.row 35 6 (IZ (askL s.nx s.X rg s.nc λi=>(s.C i).1).length) (BQ (gT (askL s.nx s.X rg s.nc λi=>(s.C i).1)) (gW (askL s.nx s.X rg s.nc λi=>(s.C i).1)))])) .fail
 | _=>.fail
theorem P7 (n:Nat) (X:Nat->Tg) (f:Nat->Int):Cb [.row 35 6 n (λi=>.agg [iV 2,iV (X i).th,iV (X i).rg,.str (X i).lc,iV (f i),.nilS])]=true:=by
 simp only [Cb,Bool.and_true,List.all_eq_true];exact λi _=>rfl
theorem p21:Ax Tryz.prog Gl 19 AkA:=by
 refine Aj A7 mixed Tryz.func19 (by kernel_rfl) (by kernel_rfl) λvs v h' h=>?_;unfold AkA at h;split at h
 ·rename_i v1 w1
  obtain ⟨s,a1,h⟩:=apS_some h;obtain ⟨z,rg,a2,h⟩:=Bz h;obtain ⟨hw,h⟩:=Ad h;have:=Ab h;simp only [Prod.mk.injEq] at this;obtain ⟨rfl,rfl⟩:=this;obtain ⟨a,n,g,m,x,t,k,p,r,q,C⟩:=s;obtain ⟨ln,co,hC⟩:∃ (ln:Nat->Nat) (co:Nat->Nat->Int),C=λu=>(ln u,co u):=⟨λu=>(C u).1,λu=>(C u).2,rfl⟩;subst hC;simp only [QX,Bool.and_eq_true] at hw;obtain ⟨k1,k2,k3,k4,k5,k6,k7,k8,k9,k10⟩:=hw;have k3':Af n=true∧Af m=true∧Af p=true∧Af q=true∧(A4 q λi=>Af (ln i))=true:=by simpa [BG,Ao] using k3
  obtain ⟨n1,n2,n3,n4,n5⟩:=k3';have k5:m <= 1023:=Nat.le_of_ble_eq_true k5;have k6:m <= z:=Nat.le_of_ble_eq_true k6;have k7:q <= 1023:=Nat.le_of_ble_eq_true k7;have hA:Bj [v1,w1] [.agg [iV a,.sl 6 n (λi=>eV (g i)),.sl 5 m (λi=>evV (x i)),iV t,iV k,.sl 1 p (λi=>iV (r i)),.sl 1 q (λu=>.sl 1 (ln u) (λi=>iV (co u i)))],.sl 1 z λi=>iV (rg i)]:=λS w cs hv=>by
   obtain ⟨c,l,rfl,q1,d,l',rfl,q2,q3⟩:=hv;exact ⟨c,_,rfl,a1 S w c q1,d,_,rfl,a2 S w d q2,q3⟩
  have CN:(A4 q λi=>A4 (ln i) λ_=>true)=true:=A0.2 λ_ _=>A0.2 λ_ _=>rfl;have hx:=Pp Ae8 Zg [(0,Nn a n g m x t k p r q ln co z rg),(2,GQ a n g m x t k p r q ln co z rg)] (G:=Gl);have hL:=Ho Zg [(0,Nn a n g m x t k p r q ln co z rg),(2,GQ a n g m x t k p r q ln co z rg)];have hk8:(askL m x rg q ln).length <= 1023:=Nat.le_of_ble_eq_true k8;have hlen:(evL x rg m).length+Gm q ln <= 1023:=by
   have:=KI (evL x rg m) ln (Ir q ln) (Gm q ln);have:(askL m x rg q ln).length=(evL x rg m).length+Gm q ln:=this;omega
  have hAq:Gm q ln <= q:=Bm _ q;have i0:∀ M,(Eb Zg [(0,Nn a n g m x t k p r q ln co z rg),(2,GQ a n g m x t k p r q ln co z rg)] 0 (IS M) (QK a n g m x t k p r q ln co z rg)).sem=some (Ve a n g m x t k p r q ln co z rg m (evL x rg m).length (gT (evL x rg m)) (gW (evL x rg m))):=λM=>by
   show (A3 (IS M) (Nn a n g m x t k p r q ln co z rg) (m+1) (Gb (QK a n g m x t k p r q ln co z rg) [(2,tgV ⟨0,0,[]⟩),(3,iV 0)])).sem=_;rw [Ade];exact AgX a n g m x t k p r q ln co z rg M (by omega) k6 m 0 (λi=>nth (QK a n g m x t k p r q ln co z rg).t i) (m+1) (by omega) (Nat.lt_succ_self _)
  have i2:∀ M,(Eb Zg [(0,Nn a n g m x t k p r q ln co z rg),(2,GQ a n g m x t k p r q ln co z rg)] 2 (H3 M) (Ld a n g m x t k p r q ln co z rg m (evL x rg m).length (gT (evL x rg m)) (gW (evL x rg m)))).sem=some (Lm a n g m x t k p r q ln co z rg (Gm q ln) (Ir q ln) (Gm q ln) (askL m x rg q ln).length (gT (askL m x rg q ln)) (gW (askL m x rg q ln))):=λM=>by
   show (A3 (H3 M) (GQ a n g m x t k p r q ln co z rg) (q+1) (Ld a n g m x t k p r q ln co z rg m (evL x rg m).length (gT (evL x rg m)) (gW (evL x rg m)))).sem=_;rw [Xb];exact XI a n g m x t k p r q ln co z rg M (evL x rg m) (Gm q ln) (Ir q ln) hlen (λi hi=>(EE hi).1) k7 (Gm q ln) 0 _ (q+1) (by omega) (by omega)
  have hw:=AP (AI (AI hL hL) hL) _ (w21 (Eb Zg [(0,Nn a n g m x t k p r q ln co z rg),(2,GQ a n g m x t k p r q ln co z rg)]) _ _ a n g m x t k p r q ln co z rg m (evL x rg m).length (gT (evL x rg m)) (gW (evL x rg m)) (Gm q ln) (Ir q ln) (Gm q ln) (askL m x rg q ln).length (gT (askL m x rg q ln)) (gW (askL m x rg q ln))
   CN k1 k2 n1 n2 n3 n4 n5 k4 k8 k9 k10 (P7 _ _ _) (Az (i0 _)) (Az (i2 _)))
  exact ⟨_,cxZ Gl AaW Zg [(0,Nn a n g m x t k p r q ln co z rg),(2,GQ a n g m x t k p r q ln co z rg)],_,hA,rfl,hx.1,hx.2,hw,Av.refl _⟩
 ·cases h
end Go.Proofs.YtkgdhhieomndeaaGreatDoor.Em
namespace Go.Proofs.YtkgdhhieomndeaaGreatDoor.Sh
open Go.Sy Ed
set_option maxHeartbeats 1000000
set_option maxRecDepth 4000
theorem shG_shG {a:Int} {n:Nat} {f:Nat->E6} (h:IsCycle a n f):shG n (shG n f)=shG n f:=by
 have hlo:=h.lo;have hl:=Js n (λi=>BD (f i));have key:∀ i,i<n->AY n (shG n f) i=AY n f i:=λi hi=>by
  have h1:=Mv h;rw [canF_congr (f:=λi=>AY n f ((shQ n f+i) % n)) (h1.turned (HA h).2.2.2).may (λi hi=>Fz hi) hi];rw [IM (f:=λi=>AY n f i) (by omega) (HA h).2.2.2 h1.may hi];exact AdD (by omega) h.may hi
 have hq:shQ n (shG n f)=shQ n f:=by
  unfold shQ;rw [FU (p:=λi=>AB (AY n (shG n f) i)) (q:=λi=>AB (AY n f i)) λi hi=>by rw [key i hi]]
 funext i;by_cases hi:i<n
 ·rw [Fz hi,Fz hi,hq]
  exact key _ (Nat.mod_lt _ (by omega))
 ·unfold shG Aae
  rw [decide_eq_false hi];rfl
theorem sameS_rfl (s:Sh7):Fv s s=true:=by
 unfold Fv;rw [Bp (Br _),Bp (Br _),Bp (Br _),Bp (sameB_rfl _ _),Bp (Br _),Bp (sameI_rfl _ _),Bp (sameJ_rfl _ _ _)];exact A0.2 λ_ _=>sameX_rfl _
theorem check_of {a:Int} {n:Nat} {f:Nat->E6} (h:IsCycle a n f):Cj (ofS a n f)=true:=by
 unfold Cj;rw [Bp (show ieq (BK (ofS a n f).arch (ofS a n f).ne (ofS a n f).E) 0=true from (Dl h).chk.1)];show Fv (ofS a n f) (ofS a n (shG n f))=true;rw [show ofS a n (shG n f)=ofS a n f by unfold ofS; rw [shG_shG h]];exact sameS_rfl _
theorem N1 {k:Nat} (h:0<k):ieq (Int.ofNat k) 0=false:=by
 cases hc:ieq (Int.ofNat k) 0 with
 | false=>rfl
 | true =>have:=BX hc;have:(k:Int)=0:=this;omega
theorem Akm {a b:Int} (h:a=b):ieq a b=true:=by rw [h]; exact HQ _
theorem CN {q:Nat} {ln:Nat->Nat}:∀ (_ _:Unit),(A4 q λi=>A4 (ln i) λ_=>true)=true:=λ_ _=>A0.2 λ_ _=>A0.2 λ_ _=>rfl
theorem before {o:Nat->Bool} {n i:Nat} (hi:i<n) (h:o (n-1)=true):An o i<An o n:=by
 have h1:=B7 h;have h2:=Bg o (show i <= n-1 by omega);rw [show n-1+1=n by omega] at h1;omega
noncomputable def tb7:AK:=(57,ofT)::(52,Nr)::[]
theorem tb7_ok:Aq Tryz.prog Gl tb7:=.cons p14 <| .cons p49 <| .nil
end Go.Proofs.YtkgdhhieomndeaaGreatDoor.Sh
namespace Go.Proofs.YtkgdhhieomndeaaGreatDoor.Sh
open Go.Sy Ed
open Int (ofNat)
set_option maxHeartbeats 1000000
set_option maxRecDepth 4000
theorem Nz {k:Nat} (hk:k<4611686018427387904):wr .i64 (AC (ofNat (k+1)) 1)=ofNat k:=by
 have h:=Ap (i:=k) (n:=k+1) (by omega) (by omega);have e:AC (ofNat (k+1)) 1=ofNat k:=by
  show (ofNat (k+1):Int)-1=ofNat k;have:(ofNat (k+1):Int)=(k:Int)+1:=rfl;rw [this];show (k:Int)+1-1=(k:Int);omega
 rw [e];by_cases h0:k=0
 ·subst h0
  rfl
 ·have h:=Ap (i:=k-1) (n:=k) (by omega) (by omega)
  have e2:Ak (ofNat (k-1)) 1=ofNat k:=by
   show (ofNat (k-1):Int)+1=ofNat k;have:((k-1:Nat):Int)+1=(k:Int):=by omega
   exact this
  rw [e2,show k-1+1=k by omega] at h;exact h
theorem Qa {y:Int} (h:ile 0 y=true):y=ofNat (toN y):=by
 have h:0 <= y:=of_decide_eq_true h;show y=((y.toNat:Nat):Int);omega
def lp69 (n:Nat) (f:Nat->Int) (v w:Int):Lp:=⟨bmK 43 0 [0,1,2,6,7],0,bmK 43 0 [6],0,n+1⟩
def st69 (n:Nat) (f:Nat->Int) (v w:Int) (b:Nat) (j:Nat->V):St:=⟨jsV 43 0 j [(0,.sl 1 n (λi=>iV (f i))),(1,iV v),(2,iV w),(6,bV false),(7,nV b)],[]⟩
noncomputable def tb4:AK:=(57,ofT)::(52,Nr)::[]
theorem tb4_ok:Aq Tryz.prog Gl tb4:=.cons p14 <| .cons p49 <| .nil
def lp4 (a:Int) (n:Nat) (f:Nat->E6):Lp:=⟨bmK 72 0 [4,5,10,11],5,bmK 72 0 [4,5,10],5,18⟩
end Go.Proofs.YtkgdhhieomndeaaGreatDoor.Sh
