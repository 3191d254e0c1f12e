/-
  A shape's condition (emitx.asked), of shapes that may be. No conditions.
-/
import Derived.Test.YthlojajaenfidaaGreatDoorEmB
import Derived.Test.YthlojajaenfidaaGreatDoorShL
import Derived.Test.YthlojajaenfidaaGreatDoorShI
namespace Go.Proofs.YthlojajaenfidaaGreatDoor.Em
open Go.Sy Go Go.Proofs.YthlojajaenfidaaGreatDoor.Ed Go.Proofs.YthlojajaenfidaaGreatDoor.Sh
open Int (ofNat)
set_option maxRecDepth 100000
def AaB (n:Nat):Bool:=Nat.ble n 1023
def tgA (n:Nat) (X:Nat->Tg):Bool:=AJ n λi=>tgB (X i).th (X i).rg (X i).lc
def Aid (n:Nat) (f:Nat->Int):Bool:=AJ n λi=>Jo (f i)
noncomputable def Zl:List (Nat × (List V->T (V × List Blk))):=[(44,VP),(45,AaF),(22,Aay),(46,allT)]
theorem Ac6:A8 Tryz.prog Gl Zl:=.cons p34 <| .cons p27 <| .cons p37 <| .cons p46 .nil
def MB (_:Int) (_:Nat) (_:Nat->E6) (m:Nat) (_:Nat->Ev5) (_ _:Int) (_:Nat) (_:Nat->Int) (_:Nat) (_:Nat->Nat) (_:Nat->Nat->Int) (_:Nat) (_:Nat->Int):Lp:=⟨(bmK 87 0 [1,2,4,5,6,20,21,22]),4,(bmK 87 0 [2,4,5,6]),4,(m+1)⟩
def Ur (a:Int) (n:Nat) (g:Nat->E6) (m:Nat) (x:Nat->Ev5) (t k:Int) (p:Nat) (r:Nat->Int) (q:Nat) (ln:Nat->Nat) (co:Nat->Nat->Int) (z:Nat) (rg:Nat->Int) (b c:Nat) (Y:Nat->Tg) (W:Nat->Int) (j:Nat->V):St:=⟨(jsV 87 0 j [(1,.sl 1 z λi=>iV (rg i)),(2,.ptr 0 0),(4,.ptr 1 0),(5,.ref 2),(6,.ref 3),(20,.sl 5 m λi=>evV (x i)),(21,nV m),(22,nV b)]),[.cells [iV a,.sl 6 n λi=>eV (g i),.sl 5 m λi=>evV (x i),iV t,iV k,.sl 1 p λi=>iV (r i),.sl 1 q λi=>.sl 1 (ln i) λj=>iV (co i j)],.cells [iV 0,iV 0,iV 0,iV 0,.str [],iV 0,.nilS],.row 35 3 c (λi=>tgV (Y i)),.row 3 1 c (λi=>iV (W i))]⟩
def T3 (a:Int) (n:Nat) (g:Nat->E6) (m:Nat) (x:Nat->Ev5) (t k:Int) (p:Nat) (r:Nat->Int) (q:Nat) (ln:Nat->Nat) (co:Nat->Nat->Int) (_:Nat) (_:Nat->Int) (_ c:Nat) (Y:Nat->Tg) (W:Nat->Int):Ex × St:=(.ex 0,⟨(jsV 87 0 (λ_=>.und) [(2,.ptr 0 0),(4,.ptr 1 0),(5,.ref 2),(6,.ref 3)]),[.cells [iV a,.sl 6 n λi=>eV (g i),.sl 5 m λi=>evV (x i),iV t,iV k,.sl 1 p λi=>iV (r i),.sl 1 q λi=>.sl 1 (ln i) λj=>iV (co i j)],.cells [iV 0,iV 0,iV 0,iV 0,.str [],iV 0,.nilS],.row 35 3 c (λi=>tgV (Y i)),.row 3 1 c (λi=>iV (W i))]⟩)
noncomputable def Io (L:LT):St->T (Ex × St):=λst=>AD tab ⟨Ak Zl,L,Gl⟩ (As Tryz.f21 0) 0 st
section
variable (L:LT) (a:Int) (n:Nat) (g:Nat->E6) (m:Nat) (x:Nat->Ev5) (t k:Int) (p:Nat) (r:Nat->Int) (q:Nat) (ln:Nat->Nat) (co:Nat->Nat->Int) (z:Nat) (rg:Nat->Int) (b c:Nat) (Y:Nat->Tg) (W:Nat->Int)  (j:Nat->V)
include L a n g m x t k p r q ln co z rg b c Y W j
theorem AmF (h0:ilt (ofNat b) (ofNat m) = false):Ag (Io L) (MB a n g m x t k p r q ln co z rg) (Ur a n g m x t k p r q ln co z rg b c Y W j) = some ((.ex 0),⟨(jsV 87 0 (λ_=>.und) [(2,(.ptr 0 0)),(4,(.ptr 1 0)),(5,(.ref 2)),(6,(.ref 3))]),[(.cells [(iV a),(.sl 6 n (λi=>(eV (g i)))),(.sl 5 m (λi=>(.agg [(iV ((x i)).th),(iV ((x i)).pl),(iV ((x i)).dir),(iV ((x i)).loc),(iV ((x i)).val)]))),(iV t),(iV k),(.sl 1 p (λi=>(iV (r i)))),(.sl 1 q (λi=>(.sl 1 (ln i) (λj=>(iV (co i j))))))]),(.cells [(iV 0),(iV 0),(iV 0),(iV 0),(.str []),(iV 0),.nilS]),(.row 35 3 c (λi=>(.agg [(iV ((Y i)).th),(iV ((Y i)).rg),(.str ((Y i)).lc)]))),(.row 3 1 c (λi=>(iV (W i))))]⟩):=by
 exact Aa (ks:=[kn h0]) (by kernel_rfl)
theorem AmE (h0:ilt (ofNat b) (ofNat m) = true) (h33:ile 0 (ofNat b) = true) (h1:ieq ((x b)).dir 1 = true) (h34:Al (ile 0 (ofNat b)) (ilt (ofNat b) (ofNat z)) = true) (h35:Bx c 1 32 = true) (h36:Bx c 1 8 = true):Ag (Io L) (MB a n g m x t k p r q ln co z rg) (Ur a n g m x t k p r q ln co z rg b c Y W j) = some (.nm,⟨(jsV 87 0 (λ_=>.und) [(1,(.sl 1 z (λi=>(iV (rg i))))),(2,(.ptr 0 0)),(4,(.ptr 1 0)),(5,(.ref 2)),(6,(.ref 3)),(20,(.sl 5 m (λi=>(.agg [(iV ((x i)).th),(iV ((x i)).pl),(iV ((x i)).dir),(iV ((x i)).loc),(iV ((x i)).val)])))),(21,(nV m)),(22,(iV (wr .i64 (Af (ofNat b) 1))))]),[(.cells [(iV a),(.sl 6 n (λi=>(eV (g i)))),(.sl 5 m (λi=>(.agg [(iV ((x i)).th),(iV ((x i)).pl),(iV ((x i)).dir),(iV ((x i)).loc),(iV ((x i)).val)]))),(iV t),(iV k),(.sl 1 p (λi=>(iV (r i)))),(.sl 1 q (λi=>(.sl 1 (ln i) (λj=>(iV (co i j))))))]),(.cells [(iV 0),(iV 0),(iV 0),(iV 0),(.str []),(iV 0),.nilS]),(.row 35 3 (Bd c 1) (A2 c (λi=>(.agg [(iV ((Y i)).th),(iV ((Y i)).rg),(.str ((Y i)).lc)])) (.agg [(iV ((x b)).th),(iV (rg b)),(.str [])]))),(.row 3 1 (Bd c 1) (A2 c (λi=>(iV (W i))) (iV ((x b)).val)))]⟩):=by
 exact Aa (ks:=[kn h0,kA (kn h33) (kn h0),kn h1,kn h34,kn h35,kn h36]) (by kernel_rfl)
theorem AmD (h0:ilt (ofNat b) (ofNat m) = true) (h33:ile 0 (ofNat b) = true) (h1:ieq ((x b)).dir 1 = false):Ag (Io L) (MB a n g m x t k p r q ln co z rg) (Ur a n g m x t k p r q ln co z rg b c Y W j) = some (.nm,⟨(jsV 87 0 (λ_=>.und) [(1,(.sl 1 z (λi=>(iV (rg i))))),(2,(.ptr 0 0)),(4,(.ptr 1 0)),(5,(.ref 2)),(6,(.ref 3)),(20,(.sl 5 m (λi=>(.agg [(iV ((x i)).th),(iV ((x i)).pl),(iV ((x i)).dir),(iV ((x i)).loc),(iV ((x i)).val)])))),(21,(nV m)),(22,(iV (wr .i64 (Af (ofNat b) 1))))]),[(.cells [(iV a),(.sl 6 n (λi=>(eV (g i)))),(.sl 5 m (λi=>(.agg [(iV ((x i)).th),(iV ((x i)).pl),(iV ((x i)).dir),(iV ((x i)).loc),(iV ((x i)).val)]))),(iV t),(iV k),(.sl 1 p (λi=>(iV (r i)))),(.sl 1 q (λi=>(.sl 1 (ln i) (λj=>(iV (co i j))))))]),(.cells [(iV 0),(iV 0),(iV 0),(iV 0),(.str []),(iV 0),.nilS]),(.row 35 3 c (λi=>(.agg [(iV ((Y i)).th),(iV ((Y i)).rg),(.str ((Y i)).lc)]))),(.row 3 1 c (λi=>(iV (W i))))]⟩):=by
 exact Aa (ks:=[kn h0,kA (kn h33) (kn h0),kn h1]) (by kernel_rfl)
end
def PW (a:Int) (n:Nat) (g:Nat->E6) (m:Nat) (x:Nat->Ev5) (t k:Int) (p:Nat) (r:Nat->Int) (q:Nat) (ln:Nat->Nat) (co:Nat->Nat->Int) (z:Nat) (rg:Nat->Int) :St:=⟨(jsV 87 0 (λ_=>A7) [(0,(.agg [(iV a),(.sl 6 n (λi=>(eV (g i)))),(.sl 5 m (λi=>(.agg [(iV ((x i)).th),(iV ((x i)).pl),(iV ((x i)).dir),(iV ((x i)).loc),(iV ((x i)).val)]))),(iV t),(iV k),(.sl 1 p (λi=>(iV (r i)))),(.sl 1 q (λi=>(.sl 1 (ln i) (λj=>(iV (co i j))))))])),(1,(.sl 1 z (λi=>(iV (rg i))))),(2,(.ptr 0 0)),(4,(.ptr 1 0)),(5,(.ref 2)),(6,(.ref 3)),(19,(.ptr 0 2)),(20,(.sl 5 m (λi=>(.agg [(iV ((x i)).th),(iV ((x i)).pl),(iV ((x i)).dir),(iV ((x i)).loc),(iV ((x i)).val)])))),(21,(nV m)),(22,(iV 0))]),[(.cells [(iV a),(.sl 6 n (λi=>(eV (g i)))),(.sl 5 m (λi=>(.agg [(iV ((x i)).th),(iV ((x i)).pl),(iV ((x i)).dir),(iV ((x i)).loc),(iV ((x i)).val)]))),(iV t),(iV k),(.sl 1 p (λi=>(iV (r i)))),(.sl 1 q (λi=>(.sl 1 (ln i) (λj=>(iV (co i j))))))]),(.cells [(iV 0),(iV 0),(iV 0),(iV 0),(.str []),(iV 0),.nilS]),(.row 35 3 0 (λ_=>.und)),r3Z]⟩
def KB (a:Int) (n:Nat) (g:Nat->E6) (m:Nat) (x:Nat->Ev5) (t k:Int) (p:Nat) (r:Nat->Int) (q:Nat) (ln:Nat->Nat) (co:Nat->Nat->Int) (_:Nat) (_:Nat->Int) (_ c:Nat) (Y:Nat->Tg) (W:Nat->Int):St:=⟨(jsV 87 0 (λ_=>.und) [(2,(.ptr 0 0)),(4,(.ptr 1 0)),(5,(.ref 2)),(6,(.ref 3)),(9,(.ref 4)),(10,(iV 0)),(11,(.ref 5)),(12,(iV 0)),(46,(.tup [(.ref 4),(iV 0)])),(47,(.agg [(iV a),(.sl 6 n (λi=>(eV (g i)))),(.sl 5 m (λi=>(.agg [(iV ((x i)).th),(iV ((x i)).pl),(iV ((x i)).dir),(iV ((x i)).loc),(iV ((x i)).val)]))),(iV t),(iV k),(.sl 1 p (λi=>(iV (r i)))),(.sl 1 q (λi=>(.sl 1 (ln i) (λj=>(iV (co i j))))))])),(48,(.tup [(.ref 4),(iV 0)])),(49,(.ref 4)),(50,(iV 0)),(51,(.tup [(.ref 5),(iV 0)])),(52,(.agg [(iV a),(.sl 6 n (λi=>(eV (g i)))),(.sl 5 m (λi=>(.agg [(iV ((x i)).th),(iV ((x i)).pl),(iV ((x i)).dir),(iV ((x i)).loc),(iV ((x i)).val)]))),(iV t),(iV k),(.sl 1 p (λi=>(iV (r i)))),(.sl 1 q (λi=>(.sl 1 (ln i) (λj=>(iV (co i j))))))])),(53,(.tup [(.ref 5),(iV 0)])),(54,(.ref 5)),(55,(iV 0)),(56,(.ref 4)),(57,(iV (ofNat (Aj (λk=>(ieq (ofNat (ln k)) 2)) q)))),(58,(iV 0))]),[(.cells [(iV a),(.sl 6 n (λi=>(eV (g i)))),(.sl 5 m (λi=>(.agg [(iV ((x i)).th),(iV ((x i)).pl),(iV ((x i)).dir),(iV ((x i)).loc),(iV ((x i)).val)]))),(iV t),(iV k),(.sl 1 p (λi=>(iV (r i)))),(.sl 1 q (λi=>(.sl 1 (ln i) (λj=>(iV (co i j))))))]),(.cells [(iV 0),(iV 0),(iV 0),(iV 0),(.str []),(iV 0),.nilS]),(.row 35 3 c (λi=>(.agg [(iV ((Y i)).th),(iV ((Y i)).rg),(.str ((Y i)).lc)]))),(.row 3 1 c (λi=>(iV (W i)))),(.row 3 1 (Aj (λk=>(ieq (ofNat (ln k)) 2)) q) (λk=>(iV (ofNat (Sq (λk=>(ieq (ofNat (ln k)) 2)) q k))))),(.row 3 1 q (λk=>(iV (ofNat (ln k)))))]⟩
def Gg (_:Int) (_:Nat) (_:Nat->E6) (_:Nat) (_:Nat->Ev5) (_ _:Int) (_:Nat) (_:Nat->Int) (q:Nat) (_:Nat->Nat) (_:Nat->Nat->Int) (_:Nat) (_:Nat->Int):Lp:=⟨(bmK 87 0 [2,4,5,6,11,56,57,58]),6,(bmK 87 0 [2,4,5,6]),4,(q+1)⟩
def Ns (a:Int) (n:Nat) (g:Nat->E6) (m:Nat) (x:Nat->Ev5) (t k:Int) (p:Nat) (r:Nat->Int) (q:Nat) (ln:Nat->Nat) (co:Nat->Nat->Int) (_:Nat) (_:Nat->Int) (A:Nat) (s1:Nat->Nat) (b c:Nat) (Y:Nat->Tg) (W:Nat->Int) (j:Nat->V):St:=⟨(jsV 87 0 j [(2,.ptr 0 0),(4,.ptr 1 0),(5,.ref 2),(6,.ref 3),(11,.ref 5),(56,.ref 4),(57,nV A),(58,nV b)]),[.cells [iV a,.sl 6 n λi=>eV (g i),.sl 5 m λi=>evV (x i),iV t,iV k,.sl 1 p λi=>iV (r i),.sl 1 q λi=>.sl 1 (ln i) λj=>iV (co i j)],.cells [iV 0,iV 0,iV 0,iV 0,.str [],iV 0,.nilS],.row 35 3 c (λi=>tgV (Y i)),.row 3 1 c (λi=>iV (W i)),.row 3 1 A (λi=>iV (ofNat (s1 i))),.row 3 1 q (λi=>iV (ofNat (ln i)))]⟩
def KM (a:Int) (n:Nat) (g:Nat->E6) (m:Nat) (x:Nat->Ev5) (t k:Int) (p:Nat) (r:Nat->Int) (q:Nat) (ln:Nat->Nat) (co:Nat->Nat->Int) (_:Nat) (_:Nat->Int) (_:Nat) (_:Nat->Nat) (_ c:Nat) (Y:Nat->Tg) (W:Nat->Int):Ex × St:=(.ex 2,⟨(jsV 87 0 (λ_=>.und) [(2,.ptr 0 0),(4,.ptr 1 0),(5,.ref 2),(6,.ref 3)]),[.cells [iV a,.sl 6 n λi=>eV (g i),.sl 5 m λi=>evV (x i),iV t,iV k,.sl 1 p λi=>iV (r i),.sl 1 q λi=>.sl 1 (ln i) λj=>iV (co i j)],.cells [iV 0,iV 0,iV 0,iV 0,.str [],iV 0,.nilS],.row 35 3 c (λi=>tgV (Y i)),.row 3 1 c (λi=>iV (W i))]⟩)
noncomputable def GQ (L:LT):St->T (Ex × St):=λst=>AD tab ⟨Ak Zl,L,Gl⟩ (As Tryz.f21 2) 2 st
section
variable (L:LT) (a:Int) (n:Nat) (g:Nat->E6) (m:Nat) (x:Nat->Ev5) (t k:Int) (p:Nat) (r:Nat->Int) (q:Nat) (ln:Nat->Nat) (co:Nat->Nat->Int) (z:Nat) (rg:Nat->Int) (A:Nat) (s1:Nat->Nat) (b c:Nat) (Y:Nat->Tg) (W:Nat->Int)  (j:Nat->V)
include L a n g m x t k p r q ln co z rg A s1 b c Y W j
theorem AhV (h0:ilt (ofNat b) (ofNat A) = false):Ag (GQ L) (Gg a n g m x t k p r q ln co z rg) (Ns a n g m x t k p r q ln co z rg A s1 b c Y W j) = some ((.ex 2),⟨(jsV 87 0 (λ_=>.und) [(2,(.ptr 0 0)),(4,(.ptr 1 0)),(5,(.ref 2)),(6,(.ref 3))]),[(.cells [(iV a),(.sl 6 n (λi=>(eV (g i)))),(.sl 5 m (λi=>(.agg [(iV ((x i)).th),(iV ((x i)).pl),(iV ((x i)).dir),(iV ((x i)).loc),(iV ((x i)).val)]))),(iV t),(iV k),(.sl 1 p (λi=>(iV (r i)))),(.sl 1 q (λi=>(.sl 1 (ln i) (λj=>(iV (co i j))))))]),(.cells [(iV 0),(iV 0),(iV 0),(iV 0),(.str []),(iV 0),.nilS]),(.row 35 3 c (λi=>(.agg [(iV ((Y i)).th),(iV ((Y i)).rg),(.str ((Y i)).lc)]))),(.row 3 1 c (λi=>(iV (W i))))]⟩):=by
 exact Aa (ks:=[kn h0]) (by kernel_rfl)
theorem AhU (h0:ilt (ofNat b) (ofNat A) = true) (h32:ile 0 (ofNat b) = true) (h33:nlt b A = true) (h34:Bx c 1 32 = true) (h36:Al (ile 0 (ofNat (s1 b))) (ilt (ofNat (s1 b)) (ofNat q)) = true) (h37:nlt (s1 b) q = true) (h38:Bx c 1 8 = true):Ag (GQ L) (Gg a n g m x t k p r q ln co z rg) (Ns a n g m x t k p r q ln co z rg A s1 b c Y W j) = some (.nm,⟨(jsV 87 0 (λ_=>.und) [(2,(.ptr 0 0)),(4,(.ptr 1 0)),(5,(.ref 2)),(6,(.ref 3)),(11,(.ref 5)),(56,(.ref 4)),(57,(nV A)),(58,(iV (wr .i64 (Af (ofNat b) 1))))]),[(.cells [(iV a),(.sl 6 n (λi=>(eV (g i)))),(.sl 5 m (λi=>(.agg [(iV ((x i)).th),(iV ((x i)).pl),(iV ((x i)).dir),(iV ((x i)).loc),(iV ((x i)).val)]))),(iV t),(iV k),(.sl 1 p (λi=>(iV (r i)))),(.sl 1 q (λi=>(.sl 1 (ln i) (λj=>(iV (co i j))))))]),(.cells [(iV 0),(iV 0),(iV 0),(iV 0),(.str []),(iV 0),.nilS]),(.row 35 3 (Bd c 1) (A2 c (λi=>(.agg [(iV ((Y i)).th),(iV ((Y i)).rg),(.str ((Y i)).lc)])) (.agg [(iV (-1)),(iV 0),(.str (C6 (ofNat (s1 b))))]))),(.row 3 1 (Bd c 1) (A2 c (λi=>(iV (W i))) (iV (ofNat (ln (s1 b)))))),(.row 3 1 A (λi=>(iV (ofNat (s1 i))))),(.row 3 1 q (λi=>(iV (ofNat (ln i)))))]⟩):=by
 exact Aa (ks:=[kn h0,kA (kn h32) (kn h0),kn h33,kn h34,kn h36,kn h37,kn h38]) (by kernel_rfl)
end
theorem w21 (L:LT) (p0:PT) (p2:PT) (a:Int) (n:Nat) (g:Nat->E6) (m:Nat) (x:Nat->Ev5) (t k:Int) (p:Nat) (r:Nat->Int) (q:Nat) (ln:Nat->Nat) (co:Nat->Nat->Int) (z:Nat) (rg:Nat->Int) (b c:Nat) (Y:Nat->Tg) (W:Nat->Int) (A:Nat) (s1:Nat->Nat) (b2 c2:Nat) (Y2:Nat->Tg) (W2:Nat->Int) (h31:AJ q (λi=>(AJ (ln i) (λ_=>true))) = true) (h32:Be n = true) (h33:Dv q = true) (h34:Ao n = true) (h35:Ao m = true) (h36:Ao p = true) (h37:Ao q = true) (h38:AJ q (λi=>(Ao (ln i))) = true) (h39:CX (Sh7.mk a n g m x t k p r q (λi=>((ln i),(co i)))) = true) (h40:AaB c2 = true) (h41:tgA c2 Y2 = true) (h42:Aid c2 W2 = true) (h43:Bk [(.row 38 6 (MD c2) (λi=>(.agg [(iV 2),(iV ((Y2 i)).th),(iV ((Y2 i)).rg),(.str ((Y2 i)).lc),(iV (W2 i)),.nilS])))] = true) (hp0:p0 (Io (onP 0 p0 (T3 a n g m x t k p r q ln co z rg b c Y W) (onP 2 p2 (KM a n g m x t k p r q ln co z rg A s1 b2 c2 Y2 W2) L))) (PW a n g m x t k p r q ln co z rg) = true) (hp2:p2 (GQ (onP 0 p0 (T3 a n g m x t k p r q ln co z rg b c Y W) (onP 2 p2 (KM a n g m x t k p r q ln co z rg A s1 b2 c2 Y2 W2) L))) (KB a n g m x t k p r q ln co z rg b c Y W) = true):(Au (Ah tab ⟨Ak Zl,(onP 0 p0 (T3 a n g m x t k p r q ln co z rg b c Y W) (onP 2 p2 (KM a n g m x t k p r q ln co z rg A s1 b2 c2 Y2 W2) L)),Gl⟩ Tryz.f21 [.agg [iV a,.sl 6 n λi=>eV (g i),.sl 5 m λi=>evV (x i),iV t,iV k,.sl 1 p λi=>iV (r i),.sl 1 q λi=>.sl 1 (ln i) λj=>iV (co i j)],.sl 1 z λi=>iV (rg i)] [])).sem = some ((.agg [(iV 1),(iV (Pd c2)),(iV ((DG c2 Y2)).th),(iV ((DG c2 Y2)).rg),(.str ((DG c2 Y2)).lc),(iV (Pe c2 W2)),(.ref 0)]),[(.row 38 6 (MD c2) (λi=>(.agg [(iV 2),(iV ((Y2 i)).th),(iV ((Y2 i)).rg),(.str ((Y2 i)).lc),(iV (W2 i)),.nilS])))]):=by
 exact Aa (ks:=[kn hp0,kL n,kL m,kL p,kn h31,kn h32,kn h33,kA (kn h34) (kA (kn h35) (kA (kn h36) (kA (kn h37) (kn h38)))),kn h39,kL n,kL m,kL p,kn h31,kn h32,kn h33,kA (kn h34) (kA (kn h35) (kA (kn h36) (kA (kn h37) (kn h38)))),kn h39,kn hp2,kL c2,kL c2,kJ c2,kn h40,kn h41,kn h42,kn h43]) (by kernel_rfl)
def gT (l:List (Tg × Int)) (i:Nat):Tg:=(l.getD i (⟨0,0,[]⟩,0)).1
def gW (l:List (Tg × Int)) (i:Nat):Int:=(l.getD i (⟨0,0,[]⟩,0)).2
theorem PO {α:Type} (l:List α) (e d:α) (i:Nat):(l ++ [e]).getD i d = if i = l.length then e else l.getD i d:=by
 simp only [List.getD]
 by_cases h:i < l.length
 ·rw [List.getElem?_append_left h,if_neg (by omega)]
 ·by_cases h2:i = l.length
  ·subst h2; simp
  ·rw [List.getElem?_append_right (by omega),if_neg h2,List.getElem?_eq_none (by simp; omega),List.getElem?_eq_none (by omega)]
theorem ZY (l:List (Tg × Int)) (e:Tg × Int):A2 l.length (λi=>tgV (gT l i)) (tgV e.1) = λi=>tgV (gT (l ++ [e]) i):=by
 funext i
 rw [Bl]
 unfold gT
 rw [PO]
 by_cases h:i = l.length
 ·subst h; simp
 ·rw [if_neg h]
  cases hb:Nat.beq i l.length with
  | true=>exact absurd (Nat.eq_of_beq_eq_true hb) h
  | false=>rfl
theorem ZX (l:List (Tg × Int)) (e:Tg × Int):A2 l.length (λi=>iV (gW l i)) (iV e.2) = λi=>iV (gW (l ++ [e]) i):=by
 funext i
 rw [Bl]
 unfold gW
 rw [PO]
 by_cases h:i = l.length
 ·subst h; simp
 ·rw [if_neg h]
  cases hb:Nat.beq i l.length with
  | true=>exact absurd (Nat.eq_of_beq_eq_true hb) h
  | false=>rfl
def evL (x:Nat->Ev5) (rg:Nat->Int):Nat->List (Tg × Int)
 | 0=>[]
 | i+1=>bif ieq (x i).dir 1 then evL x rg i ++ [(⟨(x i).th,rg i,[]⟩,(x i).val)] else evL x rg i
def loL (l:List (Tg × Int)) (ln s1:Nat->Nat):Nat->List (Tg × Int)
 | 0=>l
 | b+1=>loL l ln s1 b ++ [(⟨-1,0,C6 (ofNat (s1 b))⟩,ofNat (ln (s1 b)))]
theorem Vt (x:Nat->Ev5) (rg:Nat->Int):∀ i,(evL x rg i).length <= i
 | 0=>Nat.le_refl _
 | i+1=>by
  have:=Vt x rg i
  rw [evL]
  cases ieq (x i).dir 1 with
  | true=>show (_ ++ [_]).length <= _; rw [List.length_append]; simp only [List.length_cons,List.length_nil]; omega
  | false=>show (evL x rg i).length <= _; omega
theorem MJ (l:List (Tg × Int)) (ln s1:Nat->Nat):∀ b,(loL l ln s1 b).length = l.length+b
 | 0=>rfl
 | b+1=>by rw [loL,List.length_append,MJ l ln s1 b]; rfl
def Li (q:Nat) (ln:Nat->Nat):Nat:=Aj (λk=>ieq (ofNat (ln k)) 2) q
def TO (q:Nat) (ln:Nat->Nat) (k:Nat):Nat:=Sq (λk=>ieq (ofNat (ln k)) 2) q k
def Gs (m:Nat) (x:Nat->Ev5) (rg:Nat->Int) (q:Nat) (ln:Nat->Nat):List (Tg × Int):=loL (evL x rg m) ln (TO q ln) (Li q ln)
section
variable (a:Int) (n:Nat) (g:Nat->E6) (m:Nat) (x:Nat->Ev5) (t k:Int) (p:Nat) (r:Nat->Int) (q:Nat) (ln:Nat->Nat) (co:Nat->Nat->Int) (z:Nat) (rg:Nat->Int)
theorem Aey (L:LT) (hm:m <= 140737488355328 / 72) (hz:m <= z):∀ (d i:Nat) (j:Nat->V) (u:Nat),m = i+d->d < u ->
  (AA (Io L) (MB a n g m x t k p r q ln co z rg) u (Ur a n g m x t k p r q ln co z rg i (evL x rg i).length (gT (evL x rg i)) (gW (evL x rg i)) j)).sem = some (T3 a n g m x t k p r q ln co z rg m (evL x rg m).length (gT (evL x rg m)) (gW (evL x rg m)))
 | 0,i,j,u+1,h,_=>by
  have:m = i:=by omega
  subst this
  exact Ab (AmF L a n g m x t k p r q ln co z rg m _ _ _ j (A9 (Nat.le_refl _)))
 | d+1,i,j,u+1,h,h2=>by
  have hi:i < m:=by omega
  have hl:=Vt x rg i
  have ih:=Aey L hm hz d (i+1) (λ_=>.und) u (by omega) (by omega)
  rw [evL] at ih
  cases hc:ieq (x i).dir 1 with
  | true =>
   rw [hc] at ih
   rw [Ab (AmE L a n g m x t k p r q ln co z rg i _ _ _ j (ofNat_lt hi) (AE i) hc (Ap (by omega)) (decide_eq_true (by omega)) (decide_eq_true (by omega))),Aq,An hi (by omega)]
   have e1:=ZY (evL x rg i) (⟨(x i).th,rg i,[]⟩,(x i).val)
   have e2:=ZX (evL x rg i) (⟨(x i).th,rg i,[]⟩,(x i).val)
   have e3:(evL x rg i ++ [((⟨(x i).th,rg i,[]⟩,(x i).val):Tg × Int)]).length = Bd (evL x rg i).length 1:=List.length_append
   have ih:(AA (Io L) (MB a n g m x t k p r q ln co z rg) u (Ur a n g m x t k p r q ln co z rg (i+1) (evL x rg i ++ [((⟨(x i).th,rg i,[]⟩,(x i).val):Tg × Int)]).length (gT (evL x rg i ++ [((⟨(x i).th,rg i,[]⟩,(x i).val):Tg × Int)])) (gW (evL x rg i ++ [((⟨(x i).th,rg i,[]⟩,(x i).val):Tg × Int)])) (λ_=>.und))).sem = _:=ih
   rw [e3] at ih
   unfold Ur at ih
   rw [<- e1,<- e2] at ih
   exact ih
  | false =>
   rw [hc] at ih
   rw [Ab (AmD L a n g m x t k p r q ln co z rg i _ _ _ j (ofNat_lt hi) (AE i) hc),Aq,An hi (by omega)]
   exact ih
theorem Wv (L:LT) (l:List (Tg × Int)) (A:Nat) (s1:Nat->Nat) (hl:l.length+A <= 1023) (hs:∀ i,i < A->s1 i < q) (hq:q <= 1023):∀ (d i:Nat) (j:Nat->V) (u:Nat),A = i+d->d < u ->
  (AA (GQ L) (Gg a n g m x t k p r q ln co z rg) u (Ns a n g m x t k p r q ln co z rg A s1 i (loL l ln s1 i).length (gT (loL l ln s1 i)) (gW (loL l ln s1 i)) j)).sem = some (KM a n g m x t k p r q ln co z rg A s1 A (loL l ln s1 A).length (gT (loL l ln s1 A)) (gW (loL l ln s1 A)))
 | 0,i,j,u+1,h,_=>by
  have:A = i:=by omega
  subst this
  exact Ab (AhV L a n g m x t k p r q ln co z rg A s1 A _ _ _ j (A9 (Nat.le_refl _)))
 | d+1,i,j,u+1,h,h2=>by
  have hi:i < A:=by omega
  have hll:=MJ l ln s1 i
  have hsi:=hs i hi
  have ih:=Wv L l A s1 hl hs hq d (i+1) (λ_=>.und) u (by omega) (by omega)
  rw [Ab (AhU L a n g m x t k p r q ln co z rg A s1 i _ _ _ j (ofNat_lt hi) (AE i) (decide_eq_true hi) (decide_eq_true (by omega)) (Ap hsi) (decide_eq_true hsi) (decide_eq_true (by omega))),Aq,An hi (by omega)]
  have e1:=ZY (loL l ln s1 i) (⟨-1,0,C6 (ofNat (s1 i))⟩,ofNat (ln (s1 i)))
  have e2:=ZX (loL l ln s1 i) (⟨-1,0,C6 (ofNat (s1 i))⟩,ofNat (ln (s1 i)))
  have e3:(loL l ln s1 i ++ [((⟨-1,0,C6 (ofNat (s1 i))⟩,ofNat (ln (s1 i))):Tg × Int)]).length = Bd (loL l ln s1 i).length 1:=List.length_append
  rw [loL,e3] at ih
  unfold Ns at ih
  rw [<- e1,<- e2] at ih
  exact ih
end
end Go.Proofs.YthlojajaenfidaaGreatDoor.Em
namespace Go.Proofs.YthlojajaenfidaaGreatDoor.Em
open Go.Sy Go Go.Proofs.YthlojajaenfidaaGreatDoor.Ed Go.Proofs.YthlojajaenfidaaGreatDoor.Sh
set_option maxRecDepth 100000
def Xz:List (Nat × List (Nat × V)):=[(0,[(2,tgV ⟨0,0,[]⟩),(3,iV 0)])]
section
variable (a:Int) (n:Nat) (g:Nat->E6) (m:Nat) (x:Nat->Ev5) (t k:Int) (p:Nat) (r:Nat->Int) (q:Nat) (ln:Nat->Nat) (co:Nat->Nat->Int) (z:Nat) (rg:Nat->Int)
theorem Abm:Ck (PW a n g m x t k p r q ln co z rg) [(2,tgV ⟨0,0,[]⟩),(3,iV 0)] = Ur a n g m x t k p r q ln co z rg 0 0 (gT []) (gW []) (λi=>nth (PW a n g m x t k p r q ln co z rg).t i):=by kernel_rfl
theorem Vx (b c:Nat) (Y:Nat->Tg) (W:Nat->Int):KB a n g m x t k p r q ln co z rg b c Y W = Ns a n g m x t k p r q ln co z rg (Li q ln) (TO q ln) 0 c Y W (λi=>nth (KB a n g m x t k p r q ln co z rg b c Y W).t i):=by kernel_rfl
end
def Qk (s:Sh7) (z:Nat) (rg:Nat->Int):Bool :=
 Be s.ne && (Dv s.nc && (Cm s && (CX s && (Nat.ble s.nx 1023 && (Nat.ble s.nx z && (Nat.ble s.nc 1023 &&
  (AaB (Gs s.nx s.X rg s.nc λi=>(s.C i).1).length && (tgA (Gs s.nx s.X rg s.nc λi=>(s.C i).1).length (gT (Gs s.nx s.X rg s.nc λi=>(s.C i).1)) && Aid (Gs s.nx s.X rg s.nc λi=>(s.C i).1).length (gW (Gs s.nx s.X rg s.nc λi=>(s.C i).1))))))))))
def Ann (l:List (Tg × Int)):V:=.agg [iV 1,iV (Pd l.length),iV (DG l.length (gT l)).th,iV (DG l.length (gT l)).rg,.str (DG l.length (gT l)).lc,iV (Pe l.length (gW l)),.ref 0]
def AiE:List V->T (V × List Blk)
 | [v,w]=>apS v λs=>apG TD w λz rg=>.br (Qk s z rg) (.leaf (Ann (Gs s.nx s.X rg s.nc λi=>(s.C i).1),[.row 38 6 (MD (Gs s.nx s.X rg s.nc λi=>(s.C i).1).length) (BY (gT (Gs s.nx s.X rg s.nc λi=>(s.C i).1)) (gW (Gs s.nx s.X rg s.nc λi=>(s.C i).1)))])) .fail
 | _=>.fail
theorem TN (n:Nat) (X:Nat->Tg) (f:Nat->Int):Bk [.row 38 6 n (λi=>.agg [iV 2,iV (X i).th,iV (X i).rg,.str (X i).lc,iV (f i),.nilS])] = true:=by
 simp only [Bk,Bool.and_true,List.all_eq_true]
 exact λi _=>rfl
theorem p21:A6 Tryz.prog Gl 21 AiE:=by
 refine Av AI mixed Tryz.func21 (by kernel_rfl) (by kernel_rfl) λvs v h' h=>?_
 unfold AiE at h
 split at h
 ·rename_i v1 w1
  obtain ⟨s,a1,h⟩:=apS_some h
  obtain ⟨z,rg,a2,h⟩:=B7 h
  obtain ⟨hw,h⟩:=Ad h
  have:=Ac h
  simp only [Prod.mk.injEq] at this
  obtain ⟨rfl,rfl⟩:=this
  obtain ⟨a,n,g,m,x,t,k,p,r,q,C⟩:=s
  obtain ⟨ln,co,hC⟩:∃ (ln:Nat->Nat) (co:Nat->Nat->Int),C = λu=>(ln u,co u):=⟨λu=>(C u).1,λu=>(C u).2,rfl⟩
  subst hC
  simp only [Qk,Bool.and_eq_true] at hw
  obtain ⟨k1,k2,k3,k4,k5,k6,k7,k8,k9,k10⟩:=hw
  have k3':Ao n = true ∧ Ao m = true ∧ Ao p = true ∧ Ao q = true ∧ (AJ q λi=>Ao (ln i)) = true:=by simpa [Cm,Al] using k3
  obtain ⟨n1,n2,n3,n4,n5⟩:=k3'
  have k5:m <= 1023:=Nat.le_of_ble_eq_true k5
  have k6:m <= z:=Nat.le_of_ble_eq_true k6
  have k7:q <= 1023:=Nat.le_of_ble_eq_true k7
  have hA:Bm [v1,w1] [.agg [iV a,.sl 6 n (λi=>eV (g i)),.sl 5 m (λi=>evV (x i)),iV t,iV k,.sl 1 p (λi=>iV (r i)),.sl 1 q (λu=>.sl 1 (ln u) (λi=>iV (co u i)))],.sl 1 z λi=>iV (rg i)]:=λS w cs hv=>by
   obtain ⟨c,l,rfl,q1,d,l',rfl,q2,q3⟩:=hv
   exact ⟨c,_,rfl,a1 S w c q1,d,_,rfl,a2 S w d q2,q3⟩
  have Fh:(AJ q λi=>AJ (ln i) λ_=>true) = true:=A4.2 λ_ _=>A4.2 λ_ _=>rfl
  have hx:=Hx Ac6 Xz [(0,MB a n g m x t k p r q ln co z rg),(2,Gg a n g m x t k p r q ln co z rg)] (G:=Gl)
  have hL:=CK Xz [(0,MB a n g m x t k p r q ln co z rg),(2,Gg a n g m x t k p r q ln co z rg)]
  have hk8:(Gs m x rg q ln).length <= 1023:=Nat.le_of_ble_eq_true k8
  have hlen:(evL x rg m).length+Li q ln <= 1023:=by
   have:=MJ (evL x rg m) ln (TO q ln) (Li q ln)
   have:(Gs m x rg q ln).length = (evL x rg m).length+Li q ln:=this
   omega
  have hAq:Li q ln <= q:=AV _ q
  have i0:∀ M,(BK Xz [(0,MB a n g m x t k p r q ln co z rg),(2,Gg a n g m x t k p r q ln co z rg)] 0 (Io M) (PW a n g m x t k p r q ln co z rg)).sem = some (T3 a n g m x t k p r q ln co z rg m (evL x rg m).length (gT (evL x rg m)) (gW (evL x rg m))):=λM=>by
   show (AA (Io M) (MB a n g m x t k p r q ln co z rg) (m+1) (Ck (PW a n g m x t k p r q ln co z rg) [(2,tgV ⟨0,0,[]⟩),(3,iV 0)])).sem = _
   rw [Abm]
   exact Aey a n g m x t k p r q ln co z rg M (by omega) k6 m 0 (λi=>nth (PW a n g m x t k p r q ln co z rg).t i) (m+1) (by omega) (Nat.lt_succ_self _)
  have i2:∀ M,(BK Xz [(0,MB a n g m x t k p r q ln co z rg),(2,Gg a n g m x t k p r q ln co z rg)] 2 (GQ M) (KB a n g m x t k p r q ln co z rg m (evL x rg m).length (gT (evL x rg m)) (gW (evL x rg m)))).sem = some (KM a n g m x t k p r q ln co z rg (Li q ln) (TO q ln) (Li q ln) (Gs m x rg q ln).length (gT (Gs m x rg q ln)) (gW (Gs m x rg q ln))):=λM=>by
   show (AA (GQ M) (Gg a n g m x t k p r q ln co z rg) (q+1) (KB a n g m x t k p r q ln co z rg m (evL x rg m).length (gT (evL x rg m)) (gW (evL x rg m)))).sem = _
   rw [Vx]
   exact Wv a n g m x t k p r q ln co z rg M (evL x rg m) (Li q ln) (TO q ln) hlen (λi hi=>(G1 hi).1) k7 (Li q ln) 0 _ (q+1) (by omega) (by omega)
  have hw:=A1 (Ar (Ar hL hL) hL) _ (w21 (BK Xz [(0,MB a n g m x t k p r q ln co z rg),(2,Gg a n g m x t k p r q ln co z rg)]) _ _ a n g m x t k p r q ln co z rg m (evL x rg m).length (gT (evL x rg m)) (gW (evL x rg m)) (Li q ln) (TO q ln) (Li q ln) (Gs m x rg q ln).length (gT (Gs m x rg q ln)) (gW (Gs m x rg q ln))
   Fh k1 k2 n1 n2 n3 n4 n5 k4 k8 k9 k10 (TN _ _ _) (Ai (i0 _)) (Ai (i2 _)))
  exact ⟨_,cxZ Gl Zl Xz [(0,MB a n g m x t k p r q ln co z rg),(2,Gg a n g m x t k p r q ln co z rg)],_,hA,rfl,hx.1,hx.2,hw,A0.refl _⟩
 ·cases h
end Go.Proofs.YthlojajaenfidaaGreatDoor.Em
namespace Go.Proofs.YthlojajaenfidaaGreatDoor.Sh
open Go.Sy Ed
set_option maxHeartbeats 1000000
set_option maxRecDepth 4000
theorem MH {k:Nat} (h:0 < k):ieq (Int.ofNat k) 0 = false:=by
 cases hc:ieq (Int.ofNat k) 0 with
 | false=>rfl
 | true =>
  have:=CC hc
  have:(k:Int) = 0:=this
  omega
theorem Ait {a b:Int} (h:a = b):ieq a b = true:=by rw [h]; exact ML _
theorem Fh {q:Nat} {ln:Nat->Nat}:∀ (_ _:Unit),(AJ q λi=>AJ (ln i) λ_=>true) = true:=λ_ _=>A4.2 λ_ _=>A4.2 λ_ _=>rfl
end Go.Proofs.YthlojajaenfidaaGreatDoor.Sh
namespace Go.Proofs.YthlojajaenfidaaGreatDoor.Sh
open Go.Sy Ed
open Int (ofNat)
set_option maxHeartbeats 1000000
set_option maxRecDepth 4000
theorem W5 {k:Nat} (hk:k < 4611686018427387904):wr .i64 (Az (ofNat (k+1)) 1) = ofNat k:=by
 have h:=An (i:=k) (n:=k+1) (by omega) (by omega)
 have e:Az (ofNat (k+1)) 1 = ofNat k:=by
  show (ofNat (k+1):Int) - 1 = ofNat k
  have:(ofNat (k+1):Int) = (k:Int)+1:=rfl
  rw [this]
  show (k:Int)+1 - 1 = (k:Int)
  omega
 rw [e]
 by_cases h0:k = 0
 ·subst h0
  rfl
 ·have h:=An (i:=k - 1) (n:=k) (by omega) (by omega)
  have e2:Af (ofNat (k - 1)) 1 = ofNat k:=by
   show (ofNat (k - 1):Int)+1 = ofNat k
   have:((k - 1:Nat):Int)+1 = (k:Int):=by omega
   exact this
  rw [e2,show k - 1+1 = k by omega] at h
  exact h
theorem X4 {y:Int} (h:ile 0 y = true):y = ofNat (toN y):=by
 have h:0 <= y:=of_decide_eq_true h
 show y = ((y.toNat:Nat):Int)
 omega
end Go.Proofs.YthlojajaenfidaaGreatDoor.Sh
