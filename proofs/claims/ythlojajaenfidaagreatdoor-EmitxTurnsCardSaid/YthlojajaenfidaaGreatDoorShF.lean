/-
  Layer 7: the document's shape of a cycle. No conditions.
-/
import Derived.Test.YthlojajaenfidaaGreatDoorShE
namespace Go.Proofs.YthlojajaenfidaaGreatDoor.Sh
open Go.Sy Ed
open Int (ofNat)
set_option maxHeartbeats 1000000
set_option maxRecDepth 4000
def Adb:List V->T (V × List Blk):=Gt λn f=>.br (Be n) (.br (BR n f) (.leaf (.tup [.ref 0,iV 0],[.row 3 1 n λk=>iV (Ay (λk=>Ax (f k)) n k)])) .fail) .fail
def Ada:List V->T (V × List Blk):=Gt λn f=>.br (Be n) (.br (BR n f) (.leaf (.tup [.ref 0,iV 0],[.row 3 1 n λk=>iV (Ay (λk=>Aw (f k)) n k)])) .fail) .fail
theorem p57:A6 Tryz.prog Gl 49 Adb:=A6.congr Ed.p53 λvs r h=>by
 obtain ⟨v,rfl⟩:∃ v,vs = [v]:=by
  unfold Adb Gt at h
  split at h
  ·exact ⟨_,rfl⟩
  ·cases h
 unfold Adb Gt at h
 unfold Ki Gt
 dsimp only at h ⊢
 unfold apL at h ⊢
 split at h
 ·rename_i n g hg
  obtain ⟨h1,h⟩:=Ad h
  dsimp only at h
  obtain ⟨h2,h⟩:=Ad h
  obtain ⟨h3,h⟩:=Ad h
  rw [h1]
  dsimp only
  rw [h2,h3]
  exact h
 ·cases h
theorem p58:A6 Tryz.prog Gl 50 Ada:=A6.congr Ed.p54 λvs r h=>by
 obtain ⟨v,rfl⟩:∃ v,vs = [v]:=by
  unfold Ada Gt at h
  split at h
  ·exact ⟨_,rfl⟩
  ·cases h
 unfold Ada Gt at h
 unfold Ki Gt
 dsimp only at h ⊢
 unfold apL at h ⊢
 split at h
 ·rename_i n g hg
  obtain ⟨h1,h⟩:=Ad h
  dsimp only at h
  obtain ⟨h2,h⟩:=Ad h
  obtain ⟨h3,h⟩:=Ad h
  rw [h1]
  dsimp only
  rw [h2,h3]
  exact h
 ·cases h
noncomputable def AjD:List (Nat × (List V->T (V × List Blk))):=(47,Y3) :: (48,Ab6) :: (49,Adb) :: (50,Ada) :: []
theorem Ac7:A8 Tryz.prog Gl AjD:=.cons p49 <| .cons p56 <| .cons p57 <| .cons p58 .nil
def G9:List (Nat × Lp):=[(0,⟨(bmK 79 0 [1,2,4,5,6,7,8,9]),12,bmK 79 0 [2,4,5],12,17⟩)]
def Ls:List (Nat × List (Nat × V)):=[(0,[(11,iV 0)])]
noncomputable def CN:FuncId->List V->St->T (V × Res):=KX [(51,K2 tab (cxZ Gl Ui Ls G9) Tryz.f51)] (Ak AjD)
theorem Y6:Bg Tryz.prog ⟨CN,Gl⟩:=GK mixed (.cons rfl AI (Hx Wd Ls G9).1 (Hx Wd Ls G9).2 Tryz.func51 (by kernel_rfl) (by kernel_rfl) .nil) (DP rfl Ac7)
theorem Amu (L:LT) (a:Int) (n:Nat) (f:Nat->E6) (h0:Be n = true) (h1:ieq (BN a n f) 0 = false):(Au (Ah tab ⟨CN,L,Gl⟩ Tryz.f23 [iV a,.sl 6 n λi=>eV (f i)] [])).sem = some ((.tup [(.agg [(iV 0),(.ref 0),(.ref 1),(iV 0),(iV 0),(.ref 2),(.jref 3)]),(iV (BN a n f)),(iV (KT a n f))]),[(.row 57 6 0 (λ_=>.und)),(.row 61 5 0 (λ_=>.und)),r3Z,(.jag (Jag.mk 24 1 0 (λ_=>.und) 0 3 1 (λ_=>true) (λ_=>0) (λ_ _=>.und)))]):=by
 exact Aa (ks:=[kL n,kn h0,kN (kn h1)]) (by kernel_rfl)
def Je (a:Int) (n:Nat) (f:Nat->E6):Lp:=⟨(bmK 132 0 [4,5,6,9,10,11,13,15,16]),8,bmK 132 0 [4,5,6,15],8,n+1⟩
def Jx (a:Int) (n:Nat) (f:Nat->E6) (b:Nat) (tt kk:Int) (th lo:Nat->Int) (x:Nat->V) (r:Nat->Int) (j:Nat->V):St:=⟨(jsV 132 0 j [(4,.ptr 0 0),(5,iV 0),(6,iV 0),(9,.ref 1),(10,nV n),(11,.ref 2),(13,.ref 3),(15,.ptr 4 0),(16,nV b)]),[c7Z,.row 57 6 n (λi=>eV (shG n f i)),.row 3 1 n (λk=>iV (th k)),.row 3 1 n (λk=>iV (lo k)),.cells [iV a,.ref 1,.ref 5,iV tt,iV kk,.ref 6,.jref 7],.row 61 5 b x,.row 3 1 b (λi=>iV (r i)),.jag (Jag.mk 24 1 0 (λ_=>.und) 0 3 1 (λ_=>true) (λ_=>0) (λ_ _=>.und))]⟩
def T4 (a:Int) (n:Nat) (f:Nat->E6) (b:Nat) (tt kk:Int) (th lo:Nat->Int) (x:Nat->V) (r:Nat->Int):Ex × St:=(.ex 0,⟨(jsV 132 0 (λ_=>.und) [(4,.ptr 0 0),(5,iV 0),(6,iV 0),(15,.ptr 4 0)]),[c7Z,.row 57 6 n (λi=>eV (shG n f i)),.row 3 1 n (λk=>iV (th k)),.row 3 1 n (λk=>iV (lo k)),.cells [iV a,.ref 1,.ref 5,iV tt,iV kk,.ref 6,.jref 7],.row 61 5 b x,.row 3 1 b (λi=>iV (r i)),.jag (Jag.mk 24 1 0 (λ_=>.und) 0 3 1 (λ_=>true) (λ_=>0) (λ_ _=>.und))]⟩)
noncomputable def F8 (L:LT):St->T (Ex × St):=λst=>AD tab ⟨CN,L,Gl⟩ (As Tryz.f23 0) 0 st
theorem Akt (L:LT) (a:Int) (n:Nat) (f:Nat->E6) (b:Nat) (tt kk:Int) (th lo:Nat->Int) (x:Nat->V) (r:Nat->Int)  (j:Nat->V) (h0:ilt (ofNat b) (ofNat n) = false):Ag (F8 L) (Je a n f) (Jx a n f b tt kk th lo x r j) = some ((.ex 0),⟨(jsV 132 0 (λ_=>.und) [(4,(.ptr 0 0)),(5,(iV 0)),(6,(iV 0)),(15,(.ptr 4 0))]),[c7Z,(.row 57 6 n (λi=>(eV (shG n f i)))),(.row 3 1 n (λk=>(iV (th k)))),(.row 3 1 n (λk=>(iV (lo k)))),(.cells [(iV a),(.ref 1),(.ref 5),(iV tt),(iV kk),(.ref 6),(.jref 7)]),(.row 61 5 b x),(.row 3 1 b (λi=>(iV (r i)))),(.jag (Jag.mk 24 1 0 (λ_=>.und) 0 3 1 (λ_=>true) (λ_=>0) (λ_ _=>.und)))]⟩):=by
 exact Aa (ks:=[kn h0]) (by kernel_rfl)
def Abn (a:Int) (n:Nat) (f:Nat->E6) :St:=⟨(jsV 132 0 (λ_=>A7) [(0,(iV a)),(1,(.sl 6 n (λi=>eV (f i)))),(4,(.ptr 0 0)),(5,(iV 0)),(6,(iV 0)),(7,(iV (BN a n f))),(8,(iV (KT a n f))),(9,(.ref 1)),(10,(nV n)),(11,(.ref 2)),(12,(iV 0)),(13,(.ref 3)),(14,(iV 0)),(15,(.ptr 4 0)),(16,(iV 0)),(20,(.tup [iV (BN a n f),iV (KT a n f)])),(21,(iV a)),(22,(.sl 6 n (λi=>eV (f i)))),(23,(.tup [iV (BN a n f),iV (KT a n f)])),(24,(iV (BN a n f))),(25,(iV (KT a n f))),(26,(iV (BN a n f))),(27,(bV (AG (ieq (BN a n f) 0)))),(31,(.sl 6 n (λi=>eV (f i)))),(32,(.ref 1)),(33,(.ref 1)),(34,(nV n)),(35,(.tup [.ref 2,iV 0])),(36,(.ref 1)),(37,(.tup [.ref 2,iV 0])),(38,(.ref 2)),(39,(iV 0)),(40,(.tup [.ref 3,iV 0])),(41,(.ref 1)),(42,(.tup [.ref 3,iV 0])),(43,(.ref 3)),(44,(iV 0)),(45,(iV a)),(46,(.ref 1)),(47,(.agg [iV a,.ref 1,.nilS,iV 0,iV 0,.nilS,.nilS]))]),[c7Z,.row 57 6 n (λi=>eV (shG n f i)),.row 3 1 n (λk=>iV (Ay (λk=>Ax (shG n f k)) n k)),.row 3 1 n (λk=>iV (Ay (λk=>Aw (shG n f k)) n k)),.cells [iV a,.ref 1,.ref 5,iV 0,iV 0,.ref 6,.jref 7],.row 61 5 0 (λ_=>.und),r3Z,.jag (Jag.mk 24 1 0 (λ_=>.und) 0 3 1 (λ_=>true) (λ_=>0) (λ_ _=>.und))]⟩
def Hv (a:Int) (n:Nat) (f:Nat->E6) (b:Nat) (tt kk:Int) (th lo:Nat->Int) (x:Nat->V) (r:Nat->Int) (j:Nat->V):St:=⟨(jsV 132 0 j [(4,(.ptr 0 0)),(5,(iV 0)),(6,(iV 0)),(9,(.ref 1)),(10,(nV n)),(11,(.ref 2)),(13,(.ref 3)),(15,(.ptr 4 0)),(16,(nV b)),(17,(.ptr 8 0)),(18,(iV 0)),(48,(nV b)),(49,(nV n)),(50,(bV (ilt (ofNat b) (ofNat n)))),(53,(.ref 2)),(54,(nV b)),(55,(.ept 2 1 b 0)),(56,(iV (th b))),(57,(.ref 1)),(58,(nV b)),(59,(.ept 1 6 b 0)),(60,(.ept 1 6 b 3)),(61,(iV ((shG n f b)).src)),(62,(.ref 3)),(63,(nV b)),(64,(.ept 3 1 b 0)),(65,(iV (lo b))),(66,(.agg [iV (th b),iV 0,iV ((shG n f b)).src,iV (lo b),iV 0]))]),[c7Z,.row 57 6 n (λi=>eV (shG n f i)),.row 3 1 n (λk=>iV (th k)),.row 3 1 n (λk=>iV (lo k)),.cells [iV a,.ref 1,.ref 5,iV tt,iV kk,.ref 6,.jref 7],.row 61 5 b x,.row 3 1 b (λi=>iV (r i)),.jag (Jag.mk 24 1 0 (λ_=>.und) 0 3 1 (λ_=>true) (λ_=>0) (λ_ _=>.und)),.cells [iV (th b),iV 0,iV ((shG n f b)).src,iV (lo b),iV 0]]⟩
def LH (a:Int) (n:Nat) (f:Nat->E6):Lp:=⟨(bmK 132 0 [4,5,6,9,10,11,13,15,16,17,18]),9,bmK 132 0 [4,5,6,9,10,11,13,15,16,17],9,n+1⟩
def Nu (a:Int) (n:Nat) (f:Nat->E6) (b:Nat) (tt kk:Int) (th lo:Nat->Int) (x:Nat->V) (r:Nat->Int) (p:Int) (c:Nat) (j:Nat->V):St:=⟨(jsV 132 0 j [(4,.ptr 0 0),(5,iV 0),(6,iV 0),(9,.ref 1),(10,nV n),(11,.ref 2),(13,.ref 3),(15,.ptr 4 0),(16,nV b),(17,.ptr 8 0),(18,nV c)]),[c7Z,.row 57 6 n (λi=>eV (shG n f i)),.row 3 1 n (λk=>iV (th k)),.row 3 1 n (λk=>iV (lo k)),.cells [iV a,.ref 1,.ref 5,iV tt,iV kk,.ref 6,.jref 7],.row 61 5 b x,.row 3 1 b (λi=>iV (r i)),.jag (Jag.mk 24 1 0 (λ_=>.und) 0 3 1 (λ_=>true) (λ_=>0) (λ_ _=>.und)),.cells [iV (th b),iV p,iV ((shG n f b)).src,iV (lo b),iV 0]]⟩
def Es (a:Int) (n:Nat) (f:Nat->E6) (b:Nat) (tt kk:Int) (th lo:Nat->Int) (x:Nat->V) (r:Nat->Int) (p:Int) (c:Nat):Ex × St:=(.ex 2,⟨(jsV 132 0 (λ_=>.und) [(4,.ptr 0 0),(5,iV 0),(6,iV 0),(9,.ref 1),(10,nV n),(11,.ref 2),(13,.ref 3),(15,.ptr 4 0),(16,nV b),(17,.ptr 8 0)]),[c7Z,.row 57 6 n (λi=>eV (shG n f i)),.row 3 1 n (λk=>iV (th k)),.row 3 1 n (λk=>iV (lo k)),.cells [iV a,.ref 1,.ref 5,iV tt,iV kk,.ref 6,.jref 7],.row 61 5 b x,.row 3 1 b (λi=>iV (r i)),.jag (Jag.mk 24 1 0 (λ_=>.und) 0 3 1 (λ_=>true) (λ_=>0) (λ_ _=>.und)),.cells [iV (th b),iV p,iV ((shG n f b)).src,iV (lo b),iV 0]]⟩)
noncomputable def DQ (L:LT):St->T (Ex × St):=λst=>AD tab ⟨CN,L,Gl⟩ (As Tryz.f23 2) 2 st
section
variable (L:LT) (a:Int) (n:Nat) (f:Nat->E6) (b:Nat) (tt kk:Int) (th lo:Nat->Int) (x:Nat->V) (r:Nat->Int) (p:Int) (c:Nat)  (j:Nat->V)
include L a n f b tt kk th lo x r p c j
theorem Akn (h0:ilt (ofNat c) (ofNat b) = false):Ag (DQ L) (LH a n f) (Nu a n f b tt kk th lo x r p c j) = some ((.ex 2),⟨(jsV 132 0 (λ_=>.und) [(4,(.ptr 0 0)),(5,(iV 0)),(6,(iV 0)),(9,(.ref 1)),(10,(nV n)),(11,(.ref 2)),(13,(.ref 3)),(15,(.ptr 4 0)),(16,(nV b)),(17,(.ptr 8 0))]),[c7Z,(.row 57 6 n (λi=>(eV (shG n f i)))),(.row 3 1 n (λk=>(iV (th k)))),(.row 3 1 n (λk=>(iV (lo k)))),(.cells [(iV a),(.ref 1),(.ref 5),(iV tt),(iV kk),(.ref 6),(.jref 7)]),(.row 61 5 b x),(.row 3 1 b (λi=>(iV (r i)))),(.jag (Jag.mk 24 1 0 (λ_=>.und) 0 3 1 (λ_=>true) (λ_=>0) (λ_ _=>.und))),(.cells [(iV (th b)),(iV p),(iV ((shG n f b)).src),(iV (lo b)),(iV 0)])]⟩):=by
 exact Aa (ks:=[kn h0]) (by kernel_rfl)
theorem Akm (h0:ilt (ofNat c) (ofNat b) = true) (h19:Al (ile 0 (ofNat c)) (ilt (ofNat c) (ofNat n)) = true) (h1:nlt c n = true) (h21:Al (ile 0 (ofNat b)) (ilt (ofNat b) (ofNat n)) = true) (h2:nlt b n = true) (h3:ieq (th c) (th b) = false):Ag (DQ L) (LH a n f) (Nu a n f b tt kk th lo x r p c j) = some (.nm,⟨(jsV 132 0 (λ_=>.und) [(4,(.ptr 0 0)),(5,(iV 0)),(6,(iV 0)),(9,(.ref 1)),(10,(nV n)),(11,(.ref 2)),(13,(.ref 3)),(15,(.ptr 4 0)),(16,(nV b)),(17,(.ptr 8 0)),(18,(iV (wr .i64 (Af (ofNat c) 1))))]),[c7Z,(.row 57 6 n (λi=>(eV (shG n f i)))),(.row 3 1 n (λk=>(iV (th k)))),(.row 3 1 n (λk=>(iV (lo k)))),(.cells [(iV a),(.ref 1),(.ref 5),(iV tt),(iV kk),(.ref 6),(.jref 7)]),(.row 61 5 b x),(.row 3 1 b (λi=>(iV (r i)))),(.jag (Jag.mk 24 1 0 (λ_=>.und) 0 3 1 (λ_=>true) (λ_=>0) (λ_ _=>.und))),(.cells [(iV (th b)),(iV p),(iV ((shG n f b)).src),(iV (lo b)),(iV 0)])]⟩):=by
 exact Aa (ks:=[kn h0,kn h19,kn h1,kn h21,kn h2,kn h3]) (by kernel_rfl)
theorem Akl (h0:ilt (ofNat c) (ofNat b) = true) (h19:Al (ile 0 (ofNat c)) (ilt (ofNat c) (ofNat n)) = true) (h1:nlt c n = true) (h21:Al (ile 0 (ofNat b)) (ilt (ofNat b) (ofNat n)) = true) (h2:nlt b n = true) (h3:ieq (th c) (th b) = true):Ag (DQ L) (LH a n f) (Nu a n f b tt kk th lo x r p c j) = some (.nm,⟨(jsV 132 0 (λ_=>.und) [(4,(.ptr 0 0)),(5,(iV 0)),(6,(iV 0)),(9,(.ref 1)),(10,(nV n)),(11,(.ref 2)),(13,(.ref 3)),(15,(.ptr 4 0)),(16,(nV b)),(17,(.ptr 8 0)),(18,(iV (wr .i64 (Af (ofNat c) 1))))]),[c7Z,(.row 57 6 n (λi=>(eV (shG n f i)))),(.row 3 1 n (λk=>(iV (th k)))),(.row 3 1 n (λk=>(iV (lo k)))),(.cells [(iV a),(.ref 1),(.ref 5),(iV tt),(iV kk),(.ref 6),(.jref 7)]),(.row 61 5 b x),(.row 3 1 b (λi=>(iV (r i)))),(.jag (Jag.mk 24 1 0 (λ_=>.und) 0 3 1 (λ_=>true) (λ_=>0) (λ_ _=>.und))),(.cells [(iV (th b)),(iV (wr .i64 (Af p 1))),(iV ((shG n f b)).src),(iV (lo b)),(iV 0)])]⟩):=by
 exact Aa (ks:=[kn h0,kn h19,kn h1,kn h21,kn h2,kn h3]) (by kernel_rfl)
end
section
variable (L:LT) (p2:PT) (a:Int) (n:Nat) (f:Nat->E6) (b:Nat) (tt kk:Int) (th lo:Nat->Int) (x:Nat->V) (r:Nat->Int) (p:Int) (j:Nat->V)
include L p2 a n f b tt kk th lo x r p j
theorem AgI (h0:ilt (ofNat b) (ofNat n) = true) (h17:ile 0 (ofNat b) = true) (h18:nlt b n = true) (h19:Bx b 1 40 = true) (h20:Bx b 1 8 = true) (h1:ile tt (th b) = true) (h2:ile kk (lo b) = true) (hp2:p2 (DQ (onP 2 p2 (Es a n f b tt kk th lo x r p b) L)) (Hv a n f b tt kk th lo x r j) = true):Ag (F8 (onP 2 p2 (Es a n f b tt kk th lo x r p b) L)) (Je a n f) (Jx a n f b tt kk th lo x r j) = some (.nm,⟨(jsV 132 0 (λ_=>.und) [(4,(.ptr 0 0)),(5,(iV 0)),(6,(iV 0)),(9,(.ref 1)),(10,(nV n)),(11,(.ref 2)),(13,(.ref 3)),(15,(.ptr 4 0)),(16,(iV (wr .i64 (Af (ofNat b) 1))))]),[c7Z,(.row 57 6 n (λi=>(eV (shG n f i)))),(.row 3 1 n (λk=>(iV (th k)))),(.row 3 1 n (λk=>(iV (lo k)))),(.cells [(iV a),(.ref 1),(.ref 5),(iV (wr .i64 (Af (th b) 1))),(iV (wr .i64 (Af (lo b) 1))),(.ref 6),(.jref 7)]),(.row 61 5 (Bd b 1) (A2 b x (.agg [(iV (th b)),(iV p),(iV ((shG n f b)).src),(iV (lo b)),(iV 0)]))),(.row 3 1 (Bd b 1) (A2 b (λi=>(iV (r i))) (iV (-1)))),(.jag (Jag.mk 24 1 0 (λ_=>.und) 0 3 1 (λ_=>true) (λ_=>0) (λ_ _=>.und)))]⟩):=by
 exact Aa (ks:=[kn h0,kA (kn h17) (kn h0),kn h18,kA (kn h17) (kn h0),kn h18,kA (kn h17) (kn h0),kn h18,kI (ofNat b),kA (kn h17) (kn h0),kJ b,kn h18,kI (th b),kI (ofNat b),kA (kn h17) (kn h0),kJ b,kJ b,kn h18,kI ((shG n f b)).src,kI (ofNat b),kA (kn h17) (kn h0),kJ b,kn h18,kI (lo b),kI (th b),kI 0,kI ((shG n f b)).src,kI (lo b),kI 0,kI (ofNat b),kA (kn h17) (kn h0),kJ b,kn h18,kI (th b),kI (ofNat b),kA (kn h17) (kn h0),kJ b,kJ b,kn h18,kI ((shG n f b)).src,kI (ofNat b),kA (kn h17) (kn h0),kJ b,kn h18,kI (lo b),kI (th b),kI 0,kI ((shG n f b)).src,kI (lo b),kI 0,kn hp2,kn h19,kn h20,kA (kn h17) (kn h0),kn h18,kn h1,kA (kn h17) (kn h0),kn h18,kA (kn h17) (kn h0),kn h18,kn h2,kA (kn h17) (kn h0),kn h18]) (by kernel_rfl)
theorem AgJ (h0:ilt (ofNat b) (ofNat n) = true) (h17:ile 0 (ofNat b) = true) (h18:nlt b n = true) (h19:Bx b 1 40 = true) (h20:Bx b 1 8 = true) (h1:ile tt (th b) = true) (h2:ile kk (lo b) = false) (hp2:p2 (DQ (onP 2 p2 (Es a n f b tt kk th lo x r p b) L)) (Hv a n f b tt kk th lo x r j) = true):Ag (F8 (onP 2 p2 (Es a n f b tt kk th lo x r p b) L)) (Je a n f) (Jx a n f b tt kk th lo x r j) = some (.nm,⟨(jsV 132 0 (λ_=>.und) [(4,(.ptr 0 0)),(5,(iV 0)),(6,(iV 0)),(9,(.ref 1)),(10,(nV n)),(11,(.ref 2)),(13,(.ref 3)),(15,(.ptr 4 0)),(16,(iV (wr .i64 (Af (ofNat b) 1))))]),[c7Z,(.row 57 6 n (λi=>(eV (shG n f i)))),(.row 3 1 n (λk=>(iV (th k)))),(.row 3 1 n (λk=>(iV (lo k)))),(.cells [(iV a),(.ref 1),(.ref 5),(iV (wr .i64 (Af (th b) 1))),(iV kk),(.ref 6),(.jref 7)]),(.row 61 5 (Bd b 1) (A2 b x (.agg [(iV (th b)),(iV p),(iV ((shG n f b)).src),(iV (lo b)),(iV 0)]))),(.row 3 1 (Bd b 1) (A2 b (λi=>(iV (r i))) (iV (-1)))),(.jag (Jag.mk 24 1 0 (λ_=>.und) 0 3 1 (λ_=>true) (λ_=>0) (λ_ _=>.und)))]⟩):=by
 exact Aa (ks:=[kn h0,kA (kn h17) (kn h0),kn h18,kA (kn h17) (kn h0),kn h18,kA (kn h17) (kn h0),kn h18,kI (ofNat b),kA (kn h17) (kn h0),kJ b,kn h18,kI (th b),kI (ofNat b),kA (kn h17) (kn h0),kJ b,kJ b,kn h18,kI ((shG n f b)).src,kI (ofNat b),kA (kn h17) (kn h0),kJ b,kn h18,kI (lo b),kI (th b),kI 0,kI ((shG n f b)).src,kI (lo b),kI 0,kI (ofNat b),kA (kn h17) (kn h0),kJ b,kn h18,kI (th b),kI (ofNat b),kA (kn h17) (kn h0),kJ b,kJ b,kn h18,kI ((shG n f b)).src,kI (ofNat b),kA (kn h17) (kn h0),kJ b,kn h18,kI (lo b),kI (th b),kI 0,kI ((shG n f b)).src,kI (lo b),kI 0,kn hp2,kn h19,kn h20,kA (kn h17) (kn h0),kn h18,kn h1,kA (kn h17) (kn h0),kn h18,kA (kn h17) (kn h0),kn h18,kn h2]) (by kernel_rfl)
theorem AgK (h0:ilt (ofNat b) (ofNat n) = true) (h17:ile 0 (ofNat b) = true) (h18:nlt b n = true) (h19:Bx b 1 40 = true) (h20:Bx b 1 8 = true) (h1:ile tt (th b) = false) (h2:ile kk (lo b) = true) (hp2:p2 (DQ (onP 2 p2 (Es a n f b tt kk th lo x r p b) L)) (Hv a n f b tt kk th lo x r j) = true):Ag (F8 (onP 2 p2 (Es a n f b tt kk th lo x r p b) L)) (Je a n f) (Jx a n f b tt kk th lo x r j) = some (.nm,⟨(jsV 132 0 (λ_=>.und) [(4,(.ptr 0 0)),(5,(iV 0)),(6,(iV 0)),(9,(.ref 1)),(10,(nV n)),(11,(.ref 2)),(13,(.ref 3)),(15,(.ptr 4 0)),(16,(iV (wr .i64 (Af (ofNat b) 1))))]),[c7Z,(.row 57 6 n (λi=>(eV (shG n f i)))),(.row 3 1 n (λk=>(iV (th k)))),(.row 3 1 n (λk=>(iV (lo k)))),(.cells [(iV a),(.ref 1),(.ref 5),(iV tt),(iV (wr .i64 (Af (lo b) 1))),(.ref 6),(.jref 7)]),(.row 61 5 (Bd b 1) (A2 b x (.agg [(iV (th b)),(iV p),(iV ((shG n f b)).src),(iV (lo b)),(iV 0)]))),(.row 3 1 (Bd b 1) (A2 b (λi=>(iV (r i))) (iV (-1)))),(.jag (Jag.mk 24 1 0 (λ_=>.und) 0 3 1 (λ_=>true) (λ_=>0) (λ_ _=>.und)))]⟩):=by
 exact Aa (ks:=[kn h0,kA (kn h17) (kn h0),kn h18,kA (kn h17) (kn h0),kn h18,kA (kn h17) (kn h0),kn h18,kI (ofNat b),kA (kn h17) (kn h0),kJ b,kn h18,kI (th b),kI (ofNat b),kA (kn h17) (kn h0),kJ b,kJ b,kn h18,kI ((shG n f b)).src,kI (ofNat b),kA (kn h17) (kn h0),kJ b,kn h18,kI (lo b),kI (th b),kI 0,kI ((shG n f b)).src,kI (lo b),kI 0,kI (ofNat b),kA (kn h17) (kn h0),kJ b,kn h18,kI (th b),kI (ofNat b),kA (kn h17) (kn h0),kJ b,kJ b,kn h18,kI ((shG n f b)).src,kI (ofNat b),kA (kn h17) (kn h0),kJ b,kn h18,kI (lo b),kI (th b),kI 0,kI ((shG n f b)).src,kI (lo b),kI 0,kn hp2,kn h19,kn h20,kA (kn h17) (kn h0),kn h18,kn h1,kA (kn h17) (kn h0),kn h18,kn h2,kA (kn h17) (kn h0),kn h18]) (by kernel_rfl)
theorem AgL (h0:ilt (ofNat b) (ofNat n) = true) (h17:ile 0 (ofNat b) = true) (h18:nlt b n = true) (h19:Bx b 1 40 = true) (h20:Bx b 1 8 = true) (h1:ile tt (th b) = false) (h2:ile kk (lo b) = false) (hp2:p2 (DQ (onP 2 p2 (Es a n f b tt kk th lo x r p b) L)) (Hv a n f b tt kk th lo x r j) = true):Ag (F8 (onP 2 p2 (Es a n f b tt kk th lo x r p b) L)) (Je a n f) (Jx a n f b tt kk th lo x r j) = some (.nm,⟨(jsV 132 0 (λ_=>.und) [(4,(.ptr 0 0)),(5,(iV 0)),(6,(iV 0)),(9,(.ref 1)),(10,(nV n)),(11,(.ref 2)),(13,(.ref 3)),(15,(.ptr 4 0)),(16,(iV (wr .i64 (Af (ofNat b) 1))))]),[c7Z,(.row 57 6 n (λi=>(eV (shG n f i)))),(.row 3 1 n (λk=>(iV (th k)))),(.row 3 1 n (λk=>(iV (lo k)))),(.cells [(iV a),(.ref 1),(.ref 5),(iV tt),(iV kk),(.ref 6),(.jref 7)]),(.row 61 5 (Bd b 1) (A2 b x (.agg [(iV (th b)),(iV p),(iV ((shG n f b)).src),(iV (lo b)),(iV 0)]))),(.row 3 1 (Bd b 1) (A2 b (λi=>(iV (r i))) (iV (-1)))),(.jag (Jag.mk 24 1 0 (λ_=>.und) 0 3 1 (λ_=>true) (λ_=>0) (λ_ _=>.und)))]⟩):=by
 exact Aa (ks:=[kn h0,kA (kn h17) (kn h0),kn h18,kA (kn h17) (kn h0),kn h18,kA (kn h17) (kn h0),kn h18,kI (ofNat b),kA (kn h17) (kn h0),kJ b,kn h18,kI (th b),kI (ofNat b),kA (kn h17) (kn h0),kJ b,kJ b,kn h18,kI ((shG n f b)).src,kI (ofNat b),kA (kn h17) (kn h0),kJ b,kn h18,kI (lo b),kI (th b),kI 0,kI ((shG n f b)).src,kI (lo b),kI 0,kI (ofNat b),kA (kn h17) (kn h0),kJ b,kn h18,kI (th b),kI (ofNat b),kA (kn h17) (kn h0),kJ b,kJ b,kn h18,kI ((shG n f b)).src,kI (ofNat b),kA (kn h17) (kn h0),kJ b,kn h18,kI (lo b),kI (th b),kI 0,kI ((shG n f b)).src,kI (lo b),kI 0,kn hp2,kn h19,kn h20,kA (kn h17) (kn h0),kn h18,kn h1,kA (kn h17) (kn h0),kn h18,kn h2]) (by kernel_rfl)
end
def LG (a:Int) (n:Nat) (f:Nat->E6):Lp:=⟨(bmK 132 0 [4,15,19]),8,bmK 132 0 [4,15],8,17⟩
def Nt (a:Int) (n:Nat) (f:Nat->E6) (b kk:Nat) (tt:Int) (th lo:Nat->Int) (x:Nat->Ev5) (r:Nat->Int) (ln:Nat->Nat) (co:Nat->Nat->Int) (j:Nat->V):St:=⟨(jsV 132 0 j [(4,.ptr 0 0),(15,.ptr 4 0),(19,nV b)]),[c7Z,.row 57 6 n (λi=>eV (shG n f i)),.row 3 1 n (λi=>iV (th i)),.row 3 1 n (λi=>iV (lo i)),.cells [iV a,.ref 1,.ref 5,iV tt,nV kk,.ref 6,.jref 7],.row 61 5 n (λi=>evV (x i)),.row 3 1 n (λi=>iV (r i)),.jag (Jag.mk 24 1 b (λ_=>.und) 0 3 1 (λ_=>true) ln (λi q=>iV (co i q)))]⟩
def KN (a:Int) (n:Nat) (f:Nat->E6) (b kk:Nat) (tt:Int) (th lo:Nat->Int) (x:Nat->Ev5) (r:Nat->Int) (ln:Nat->Nat) (co:Nat->Nat->Int):Ex × St:=(.ex 4,⟨(jsV 132 0 (λ_=>.und) [(4,.ptr 0 0),(15,.ptr 4 0)]),[c7Z,.row 57 6 n (λi=>eV (shG n f i)),.row 3 1 n (λi=>iV (th i)),.row 3 1 n (λi=>iV (lo i)),.cells [iV a,.ref 1,.ref 5,iV tt,nV kk,.ref 6,.jref 7],.row 61 5 n (λi=>evV (x i)),.row 3 1 n (λi=>iV (r i)),.jag (Jag.mk 24 1 b (λ_=>.und) 0 3 1 (λ_=>true) ln (λi q=>iV (co i q)))]⟩)
def Uw (b:Nat) (u:Nat->V):List V:=(jsV 132 0 u [(4,.ptr 0 0),(15,.ptr 4 0),(19,nV b)])
noncomputable def Ld (L:LT):St->T (Ex × St):=λst=>AD tab ⟨CN,L,Gl⟩ (As Tryz.f23 4) 4 st
theorem Akb (L:LT) (a:Int) (n:Nat) (f:Nat->E6) (b kk:Nat) (tt:Int) (th lo:Nat->Int) (x:Nat->Ev5) (r:Nat->Int) (ln:Nat->Nat) (co:Nat->Nat->Int)  (j:Nat->V) (h0:ilt (ofNat b) (ofNat kk) = false):(((AD tab ⟨CN,L,Gl⟩ (As Tryz.f23 4) 4 (Nt a n f b kk tt th lo x r ln co j)).bind λrr=>T.leaf (MC (LG a n f) rr))).sem = some ((.ex 4),⟨(jsV 132 0 (λ_=>.und) [(4,(.ptr 0 0)),(15,(.ptr 4 0))]),[c7Z,(.row 57 6 n (λi=>(eV (shG n f i)))),(.row 3 1 n (λi=>(iV (th i)))),(.row 3 1 n (λi=>(iV (lo i)))),(.cells [(iV a),(.ref 1),(.ref 5),(iV tt),(nV kk),(.ref 6),(.jref 7)]),(.row 61 5 n (λi=>(.agg [(iV ((x i)).th),(iV ((x i)).pl),(iV ((x i)).dir),(iV ((x i)).loc),(iV ((x i)).val)]))),(.row 3 1 n (λi=>(iV (r i)))),(.jag (Jag.mk 24 1 b (λ_=>.und) 0 3 1 (λ_=>true) ln (λi q=>(iV (co i q)))))]⟩):=by
 exact Aa (ks:=[kn h0]) (by kernel_rfl)
theorem Aka (L:LT) (a:Int) (n:Nat) (f:Nat->E6) (b kk:Nat) (tt:Int) (th lo:Nat->Int) (x:Nat->Ev5) (r:Nat->Int) (ln:Nat->Nat) (co:Nat->Nat->Int) (u:Nat->V) (x':Nat->Ev5) (r':Nat->Int) (ln':Nat->Nat) (co':Nat->Nat->Int) (lv':Nat->Bool) (c':Nat->V) (d:List Blk) (q59:List V->St->Bool) (j:Nat->V) (h0:ilt (ofNat b) (ofNat kk) = true) (hq59:(q59 [(.agg [(iV a),(.ref 1),(.ref 5),(iV tt),(nV kk),(.ref 6),(.jref 7)]),(nV b)] ⟨(jsV 132 0 j [(4,(.ptr 0 0)),(15,(.ptr 4 0)),(19,(nV b)),(122,(nV b)),(123,(.ptr 4 4)),(124,(nV kk)),(125,(bV (ilt (ofNat b) (ofNat kk)))),(128,(.agg [(iV a),(.ref 1),(.ref 5),(iV tt),(nV kk),(.ref 6),(.jref 7)])),(129,(nV b))]),[c7Z,(.row 57 6 n (λi=>(eV (shG n f i)))),(.row 3 1 n (λi=>(iV (th i)))),(.row 3 1 n (λi=>(iV (lo i)))),(.cells [(iV a),(.ref 1),(.ref 5),(iV tt),(nV kk),(.ref 6),(.jref 7)]),(.row 61 5 n (λi=>(.agg [(iV ((x i)).th),(iV ((x i)).pl),(iV ((x i)).dir),(iV ((x i)).loc),(iV ((x i)).val)]))),(.row 3 1 n (λi=>(iV (r i)))),(.jag (Jag.mk 24 1 b (λ_=>.und) 0 3 1 (λ_=>true) ln (λi q=>(iV (co i q)))))]⟩) = true):(((AD tab ⟨(onC 51 q59 ((.agg [(iV a),(.ref 1),(.ref 5),(iV tt),(nV kk),(.ref 6),(.jref 7)]),.all ⟨Uw b u,[c7Z,(.row 57 6 n (λi=>eV (shG n f i))),(.row 3 1 n (λi=>iV (th i))),(.row 3 1 n (λi=>iV (lo i))),(.cells [(iV a),(.ref 1),(.ref 5),(iV tt),(nV kk),(.ref 6),.und]),(.row 61 5 n (λi=>evV (x' i))),(.row 3 1 n (λi=>iV (r' i))),(.jag (Jag.mk 24 1 (Bd b 1) c' 0 3 1 lv' ln' (λi q=>iV (co' i q))))] ++ d⟩) (CN)),L,Gl⟩ (As Tryz.f23 4) 4 (Nt a n f b kk tt th lo x r ln co j)).bind λrr=>T.leaf (MC (LG a n f) rr))).sem = some (.nm,⟨(jsV 132 0 (λ_=>.und) [(4,(.ptr 0 0)),(15,(.ptr 4 0)),(19,(iV (wr .i64 (Af (ofNat b) 1))))]),[c7Z,(.row 57 6 n (λi=>(eV (shG n f i)))),(.row 3 1 n (λi=>(iV (th i)))),(.row 3 1 n (λi=>(iV (lo i)))),(.cells [(iV a),(.ref 1),(.ref 5),(iV tt),(nV kk),(.ref 6),(.jref 7)]),(.row 61 5 n (λi=>(.agg [(iV ((x' i)).th),(iV ((x' i)).pl),(iV ((x' i)).dir),(iV ((x' i)).loc),(iV ((x' i)).val)]))),(.row 3 1 n (λi=>(iV (r' i)))),(.jag (Jag.mk 24 1 (Bd b 1) c' 0 3 1 lv' ln' (λi q=>(iV (co' i q)))))]⟩):=by
 exact Aa (ks:=[kn h0,kn hq59]) (by kernel_rfl)
def R5 (a:Int) (n:Nat) (f:Nat->E6) (tt:Int) (kk:Nat) (th lo:Nat->Int) (x:Nat->Ev5) (r:Nat->Int):St:=⟨(jsV 132 0 (λ_=>.und) [(4,(.ptr 0 0)),(5,(iV 0)),(6,(iV 0)),(15,(.ptr 4 0)),(19,(iV 0))]),[c7Z,.row 57 6 n (λi=>eV (shG n f i)),.row 3 1 n (λk=>iV (th k)),.row 3 1 n (λk=>iV (lo k)),.cells [iV a,.ref 1,.ref 5,iV tt,nV kk,.ref 6,.jref 7],.row 61 5 n (λi=>.agg [iV ((x i)).th,iV ((x i)).pl,iV ((x i)).dir,iV ((x i)).loc,iV ((x i)).val]),.row 3 1 n (λi=>iV (r i)),.jag (Jag.mk 24 1 0 (λ_=>.und) 0 3 1 (λ_=>true) (λ_=>0) (λ_ _=>.und))]⟩
theorem Amt (L:LT) (p0:PT) (p4:PT) (a:Int) (n:Nat) (f:Nat->E6) (tt:Int) (kk:Nat) (th lo:Nat->Int) (x:Nat->Ev5) (r:Nat->Int) (x':Nat->Ev5) (r':Nat->Int) (ln':Nat->Nat) (co':Nat->Nat->Int) (h16:Be n = true) (h0:ieq (BN a n f) 0 = true) (h1:AdQ n f = true) (h17:BR n (λi=>(shG n f i)) = true) (h18:Bk [.row 3 1 n (λ_=>iV 0)] = true) (hp0:p0 (F8 (onP 0 p0 (T4 a n f n tt (ofNat kk) th lo (λi=>evV (x i)) r) (onP 4 p4 (KN a n f kk kk tt th lo x' r' ln' co') L))) (Abn a n f) = true) (hp4:p4 (Ld (onP 0 p0 (T4 a n f n tt (ofNat kk) th lo (λi=>evV (x i)) r) (onP 4 p4 (KN a n f kk kk tt th lo x' r' ln' co') L))) (R5 a n f tt kk th lo x r) = true):(Au (Ah tab ⟨CN,(onP 0 p0 (T4 a n f n tt (ofNat kk) th lo (λi=>evV (x i)) r) (onP 4 p4 (KN a n f kk kk tt th lo x' r' ln' co') L)),Gl⟩ Tryz.f23 [iV a,.sl 6 n λi=>eV (f i)] [])).sem = some ((.tup [(.agg [(iV a),(.ref 0),(.ref 1),(iV tt),(nV kk),(.ref 2),(.jref 3)]),(iV 0),(iV 0)]),[(.row 57 6 n (λi=>(eV (shG n f i)))),(.row 61 5 n (λi=>(.agg [(iV ((x' i)).th),(iV ((x' i)).pl),(iV ((x' i)).dir),(iV ((x' i)).loc),(iV ((x' i)).val)]))),(.row 3 1 n (λi=>(iV (r' i)))),(.jag (Jag.mk 24 1 kk (λ_=>.und) 0 3 1 (λ_=>true) ln' (λi q=>(iV (co' i q)))))]):=by
 exact Aa (ks:=[kL n,kn h16,kN (kn h0),kL n,kn h16,kn h1,kL n,kn h16,kn h17,kn h18,kL n,kn h16,kn h17,kn h18,kn hp0,kn hp4]) (by kernel_rfl)
theorem ile_nat (a b:Nat):ile (ofNat a) (ofNat b) = decide (a <= b):=by
 unfold ile
 rw [Bool.eq_iff_iff]
 simp
theorem AaO (a b:Int):ieq a b = ieq b a:=by
 unfold ieq
 rw [Bool.eq_iff_iff]
 simp only [beq_iff_eq]
 exact eq_comm
theorem UB (L:LT) (a:Int) (n:Nat) (f:Nat->E6) (b:Nat) (tt kk:Int) (th lo:Nat->Int) (x:Nat->V) (r:Nat->Int) (hb:b < n) (hn:n <= 16):∀ (e c:Nat) (j:Nat->V) (q:Nat),b = c+e->e < q ->
  (AA (DQ L) (LH a n f) q (Nu a n f b tt kk th lo x r (ofNat (Aj (λk=>ieq (th k) (th b)) c)) c j)).sem = some (Es a n f b tt kk th lo x r (ofNat (Aj (λk=>ieq (th k) (th b)) b)) b)
 | 0,c,j,q+1,h,_=>by
  have:b = c:=by omega
  subst this
  exact Ab (Akn L a n f b tt kk th lo x r _ b j (A9 (Nat.le_refl _)))
 | e+1,c,j,q+1,h,h2=>by
  have hl:c < b:=by omega
  have hc:=AV (λk=>ieq (th k) (th b)) c
  cases hp:ieq (th c) (th b) with
  | true =>
   rw [Ab (Akl L a n f b tt kk th lo x r _ c j (ofNat_lt hl) (Ap (by omega)) (decide_eq_true (by omega)) (Ap hb) (decide_eq_true hb) hp),Aq,An hl (by omega),An (n:=n) (by omega) (by omega),<- Bi (p:=λk=>ieq (th k) (th b)) hp]
   exact UB L a n f b tt kk th lo x r hb hn e (c+1) (λ_=>.und) q (by omega) (by omega)
  | false =>
   rw [Ab (Akm L a n f b tt kk th lo x r _ c j (ofNat_lt hl) (Ap (by omega)) (decide_eq_true (by omega)) (Ap hb) (decide_eq_true hb) hp),Aq,An hl (by omega),<- B5 (p:=λk=>ieq (th k) (th b)) hp]
   exact UB L a n f b tt kk th lo x r hb hn e (c+1) (λ_=>.und) q (by omega) (by omega)
theorem Vy (a:Int) (n:Nat) (f:Nat->E6) (b:Nat) (tt kk:Int) (th lo:Nat->Int) (x:Nat->V) (r:Nat->Int) (j:Nat->V):Hv a n f b tt kk th lo x r j = Nu a n f b tt kk th lo x r 0 0 (λi=>nth (Hv a n f b tt kk th lo x r j).t i):=by kernel_rfl
theorem Alw {p:Nat->Bool} {n b:Nat} (hb:b < n) (hn:n <= 16):(ile (ofNat (rN p n b)) (Ay p n b) = true ∧ wr .i64 (Af (Ay p n b) 1) = ofNat (rN p n (b+1))) ∨ (ile (ofNat (rN p n b)) (Ay p n b) = false ∧ rN p n b = rN p n (b+1)):=by
 have h1:=Kj p n b hb
 have h2:=S6 p n b
 rw [FL hb,An (n:=n) (by omega) (by omega),ile_nat,rN]
 by_cases h:AU p n b < rN p n b
 ·rw [if_pos h]
  exact .inr ⟨decide_eq_false (by omega),rfl⟩
 ·rw [if_neg h]
  exact .inl ⟨decide_eq_true (by omega),by rw [show AU p n b = rN p n b by omega]⟩
theorem Ae0 (M:LT) (hMM:LLe M M) (a:Int) (n:Nat) (f:Nat->E6) (m2:∀ g st,M 2 g st = AA g (LH a n f) (n+1) st) (hn:n <= 16):∀ (e b:Nat) (j:Nat->V) (q:Nat),n = b+e->e < q ->
  (AA (F8 M) (Je a n f) q (Jx a n f b (ofNat (rN (obF (shG n f)) n b)) (ofNat (rN (mbF (shG n f)) n b)) (thF n (shG n f)) (loF n (shG n f)) (λi=>evV (upX n (shG n f) b i)) (λ_=>-1) j)).sem = some (T4 a n f n (ofNat (rN (obF (shG n f)) n n)) (ofNat (rN (mbF (shG n f)) n n)) (thF n (shG n f)) (loF n (shG n f)) (λi=>evV (upX n (shG n f) n i)) (λ_=>-1))
 | 0,b,j,q+1,h,_=>by
  have:n = b:=by omega
  subst this
  exact Ab (Akt M a n f n _ _ _ _ _ _ j (A9 (Nat.le_refl _)))
 | e+1,b,j,q+1,h,h2=>by
  have hl:b < n:=by omega
  have hi:∀ M',(M 2 (DQ M') (Hv a n f b (ofNat (rN (obF (shG n f)) n b)) (ofNat (rN (mbF (shG n f)) n b)) (thF n (shG n f)) (loF n (shG n f)) (λi=>evV (upX n (shG n f) b i)) (λ_=>-1) j)).sem = some (Es a n f b (ofNat (rN (obF (shG n f)) n b)) (ofNat (rN (mbF (shG n f)) n b)) (thF n (shG n f)) (loF n (shG n f)) (λi=>evV (upX n (shG n f) b i)) (λ_=>-1) (ofNat (Aj (λk=>ieq (thF n (shG n f) k) (thF n (shG n f) b)) b)) b):=λM'=>by
   rw [m2,Vy]
   exact UB M' a n f b (ofNat (rN (obF (shG n f)) n b)) (ofNat (rN (mbF (shG n f)) n b)) (thF n (shG n f)) (loF n (shG n f)) (λi=>evV (upX n (shG n f) b i)) (λ_=>-1) hl hn b 0 _ (n+1) (by omega) (by omega)
  have hx:=RS n (shG n f) b
  rw [show evV (evF n (shG n f) (λ_=>false) b) = .agg [iV (thF n (shG n f) b),iV (ofNat (Aj (λk=>ieq (thF n (shG n f) k) (thF n (shG n f) b)) b)),iV (shG n f b).src,iV (loF n (shG n f) b),iV 0] by
   rw [CF hl,show Aj (λk=>ieq (thF n (shG n f) k) (thF n (shG n f) b)) b = plF n (shG n f) b from GI λi _=>AaO _ _]; rfl] at hx
  have next:=Ae0 M hMM a n f m2 hn e (b+1) (λ_=>.und) q (by omega) (by omega)
  rcases Alw (p:=obF (shG n f)) hl hn with ⟨c1,w1⟩ | ⟨c1,w1⟩ <;> rcases Alw (p:=mbF (shG n f)) hl hn with ⟨c2,w2⟩ | ⟨c2,w2⟩
  ·have w1:wr .i64 (Af (thF n (shG n f) b) 1) = _:=w1
   have w2:wr .i64 (Af (loF n (shG n f) b) 1) = _:=w2
   have h3:=AgI M _ a n f b (ofNat (rN (obF (shG n f)) n b)) (ofNat (rN (mbF (shG n f)) n b)) (thF n (shG n f)) (loF n (shG n f)) (λi=>evV (upX n (shG n f) b i)) (λ_=>-1) (ofNat (Aj (λk=>ieq (thF n (shG n f) k) (thF n (shG n f) b)) b)) j (ofNat_lt hl) (AE b) (decide_eq_true hl) (BM (by omega)) (BM (by omega)) c1 c2 (Ai (hi _))
   have h4:Ag (F8 M) (Je a n f) (Jx a n f b (ofNat (rN (obF (shG n f)) n b)) (ofNat (rN (mbF (shG n f)) n b)) (thF n (shG n f)) (loF n (shG n f)) (λi=>evV (upX n (shG n f) b i)) (λ_=>-1) j) = _:=Db (l:=Je a n f) (E5 (Γ:=⟨CN,M,Gl⟩) (Ar hMM hMM) (As Tryz.f23 0) 0 (Jx a n f b (ofNat (rN (obF (shG n f)) n b)) (ofNat (rN (mbF (shG n f)) n b)) (thF n (shG n f)) (loF n (shG n f)) (λi=>evV (upX n (shG n f) b i)) (λ_=>-1) j)) h3
   rw [Ab h4,Aq,An hl (by omega),hx,Ea]
   rw [w1,w2]
   exact next
  ·have w1:wr .i64 (Af (thF n (shG n f) b) 1) = _:=w1
   have h3:=AgJ M _ a n f b (ofNat (rN (obF (shG n f)) n b)) (ofNat (rN (mbF (shG n f)) n b)) (thF n (shG n f)) (loF n (shG n f)) (λi=>evV (upX n (shG n f) b i)) (λ_=>-1) (ofNat (Aj (λk=>ieq (thF n (shG n f) k) (thF n (shG n f) b)) b)) j (ofNat_lt hl) (AE b) (decide_eq_true hl) (BM (by omega)) (BM (by omega)) c1 c2 (Ai (hi _))
   have h4:Ag (F8 M) (Je a n f) (Jx a n f b (ofNat (rN (obF (shG n f)) n b)) (ofNat (rN (mbF (shG n f)) n b)) (thF n (shG n f)) (loF n (shG n f)) (λi=>evV (upX n (shG n f) b i)) (λ_=>-1) j) = _:=Db (l:=Je a n f) (E5 (Γ:=⟨CN,M,Gl⟩) (Ar hMM hMM) (As Tryz.f23 0) 0 (Jx a n f b (ofNat (rN (obF (shG n f)) n b)) (ofNat (rN (mbF (shG n f)) n b)) (thF n (shG n f)) (loF n (shG n f)) (λi=>evV (upX n (shG n f) b i)) (λ_=>-1) j)) h3
   rw [Ab h4,Aq,An hl (by omega),hx,Ea]
   rw [w1,w2]
   exact next
  ·have w2:wr .i64 (Af (loF n (shG n f) b) 1) = _:=w2
   have h3:=AgK M _ a n f b (ofNat (rN (obF (shG n f)) n b)) (ofNat (rN (mbF (shG n f)) n b)) (thF n (shG n f)) (loF n (shG n f)) (λi=>evV (upX n (shG n f) b i)) (λ_=>-1) (ofNat (Aj (λk=>ieq (thF n (shG n f) k) (thF n (shG n f) b)) b)) j (ofNat_lt hl) (AE b) (decide_eq_true hl) (BM (by omega)) (BM (by omega)) c1 c2 (Ai (hi _))
   have h4:Ag (F8 M) (Je a n f) (Jx a n f b (ofNat (rN (obF (shG n f)) n b)) (ofNat (rN (mbF (shG n f)) n b)) (thF n (shG n f)) (loF n (shG n f)) (λi=>evV (upX n (shG n f) b i)) (λ_=>-1) j) = _:=Db (l:=Je a n f) (E5 (Γ:=⟨CN,M,Gl⟩) (Ar hMM hMM) (As Tryz.f23 0) 0 (Jx a n f b (ofNat (rN (obF (shG n f)) n b)) (ofNat (rN (mbF (shG n f)) n b)) (thF n (shG n f)) (loF n (shG n f)) (λi=>evV (upX n (shG n f) b i)) (λ_=>-1) j)) h3
   rw [Ab h4,Aq,An hl (by omega),hx,Ea]
   rw [w1,w2]
   exact next
  ·have h3:=AgL M _ a n f b (ofNat (rN (obF (shG n f)) n b)) (ofNat (rN (mbF (shG n f)) n b)) (thF n (shG n f)) (loF n (shG n f)) (λi=>evV (upX n (shG n f) b i)) (λ_=>-1) (ofNat (Aj (λk=>ieq (thF n (shG n f) k) (thF n (shG n f) b)) b)) j (ofNat_lt hl) (AE b) (decide_eq_true hl) (BM (by omega)) (BM (by omega)) c1 c2 (Ai (hi _))
   have h4:Ag (F8 M) (Je a n f) (Jx a n f b (ofNat (rN (obF (shG n f)) n b)) (ofNat (rN (mbF (shG n f)) n b)) (thF n (shG n f)) (loF n (shG n f)) (λi=>evV (upX n (shG n f) b i)) (λ_=>-1) j) = _:=Db (l:=Je a n f) (E5 (Γ:=⟨CN,M,Gl⟩) (Ar hMM hMM) (As Tryz.f23 0) 0 (Jx a n f b (ofNat (rN (obF (shG n f)) n b)) (ofNat (rN (mbF (shG n f)) n b)) (thF n (shG n f)) (loF n (shG n f)) (λi=>evV (upX n (shG n f) b i)) (λ_=>-1) j)) h3
   rw [Ab h4,Aq,An hl (by omega),hx,Ea]
   rw [w1,w2]
   exact next
def lnR (n:Nat) (g:Nat->E6) (b k:Nat):Nat:=if k < b then lnN (mbF g) (wrF g) n k else 0
def coR (n:Nat) (g:Nat->E6) (b k q:Nat):Int:=if k < b ∧ q < lnN (mbF g) (wrF g) n k then ofNat (coN (mbF g) (wrF g) n k q) else 0
theorem Aa7 (n:Nat) (g:Nat->E6) (b:Nat):(λi=>sel (AB i b) (wcN (wrF g) n (stN (mbF g) n b) (Cj (mbF g) n (stN (mbF g) n b))) (lnR n g b i)) = lnR n g (b+1):=by
 funext i
 unfold lnR
 by_cases hi:i = b
 ·subst hi
  rw [show AB i i = true from Nat.beq_refl _,if_pos (Nat.lt_succ_self _)]
  rfl
 ·rw [show AB i b = false from nbeq_ne hi]
  by_cases h:i < b
  ·rw [if_pos h,if_pos (by omega)]; rfl
  ·rw [if_neg h,if_neg (by omega)]; rfl
theorem AbE {n:Nat} {g:Nat->E6} {b:Nat} (hb:b < kkN n g):(λi i_1=>C4 (λi_2 i_3=>iV (coR n g b i_2 i_3)) b (λi_2=>iV (wvF n g (stN (mbF g) n b) (Cj (mbF g) n (stN (mbF g) n b)) i_2)) i i_1) = λi q=>iV (coR n g (b+1) i q):=by
 funext i q
 unfold C4
 rw [EY]
 have hlo:loN n g (stN (mbF g) n b) = b:=(Gw hb).2.2.1
 unfold coR wvF
 rw [hlo]
 by_cases hi:i = b
 ·subst hi
  rw [show AB i i = true from Nat.beq_refl _]
  show iV _ = iV _
  by_cases hq:q < wcN (wrF g) n (stN (mbF g) n i) (Cj (mbF g) n (stN (mbF g) n i))
  ·rw [if_pos hq,if_pos ⟨Nat.lt_succ_self _,hq⟩]
  ·rw [if_neg hq,if_neg (λh=>hq h.2)]
 ·rw [show AB i b = false from nbeq_ne hi]
  show iV _ = iV _
  by_cases h:i < b ∧ q < lnN (mbF g) (wrF g) n i
  ·rw [if_pos h,if_pos ⟨by omega,h.2⟩]
  ·rw [if_neg h,if_neg (λh'=>h ⟨by omega,h'.2⟩)]
def hpE (a:Int) (n:Nat) (f:Nat->E6) (th lo:Nat->Int) (tt:Int) (b:Nat):List Blk:=[c7Z,.row 57 6 n (λi=>eV (shG n f i)),.row 3 1 n (λi=>iV (th i)),.row 3 1 n (λi=>iV (lo i)),.cells [iV a,.ref 1,.ref 5,iV tt,iV (ofNat (kkN n (shG n f))),.ref 6,.jref 7],.row 61 5 n (λi=>evV (evF n (shG n f) (dnF n (shG n f) (loN n (shG n f)) b 0) i)),.row 3 1 n (λi=>iV (rfF n (shG n f) (dnF n (shG n f) (loN n (shG n f)) b 0) i)),.jag (Jag.mk 24 1 b (λ_=>.und) 0 3 1 (λ_=>true) (lnR n (shG n f) b) (λi q=>iV (coR n (shG n f) b i q)))]
def Alt (a:Int) (n:Nat) (f:Nat->E6) (th lo:Nat->Int) (tt:Int) (b:Nat):List Blk:=[c7Z,.row 57 6 n (λi=>eV (shG n f i)),.row 3 1 n (λi=>iV (th i)),.row 3 1 n (λi=>iV (lo i)),.cells [iV a,.ref 1,.ref 5,iV tt,iV (ofNat (kkN n (shG n f))),.ref 6,.und],.row 61 5 n (λi=>evV (evF n (shG n f) (dnF n (shG n f) (loN n (shG n f)) b 0) i)),.row 3 1 n (λi=>iV (rfF n (shG n f) (dnF n (shG n f) (loN n (shG n f)) b 0) i)),.jag (Jag.mk 24 1 b (λ_=>.und) 0 3 1 (λ_=>true) (lnR n (shG n f) b) (λi q=>iV (coR n (shG n f) b i q)))]
def AiF (a:Int) (n:Nat) (f:Nat->E6) (tt:Int):V:=.agg [iV a,.ref 1,.ref 5,iV tt,iV (ofNat (kkN n (shG n f))),.ref 6,.jref 7]
def ZN (a:Int) (n:Nat) (f:Nat->E6) (tt:Int):List Blk:=[.dead,.cells [iV a,.ref 1,.ref 5,iV tt,iV (ofNat (kkN n (shG n f))),.ref 6,.jref 7],.cells [iV a,.ref 1,.ref 5,iV tt,iV (ofNat (kkN n (shG n f))),.ref 6,.jref 7],.dead,.dead]
theorem Y7 (vs:List V) (st:St):CN 51 vs st = K2 tab (cxZ Gl Ui Ls G9) Tryz.f51 vs st:=by kernel_rfl
theorem Ve (q:Nat):(λi=>sel (AB i q) true true) = λ_=>true:=by
 funext i
 cases AB i q <;> rfl
theorem Abj (a:Int) (n k kk:Nat) (g:Nat->E6) (th lo:Nat->Int) (tt:Int) (c0:Nat->V) (x0:Nat->Ev5) (r0:Nat->Int) (ln:Nat->Nat) (co:Nat->Nat->Int) (ts:List V):Ck (PV a n k kk g th lo tt c0 x0 r0 ln co ts) [(11,iV 0)] = X9 a n k kk g th lo tt c0 x0 r0 ln co ts 0 0 (Gm n g x0 (ofNat k)) (-1) x0 r0 (λ_=>0) (λi=>nth (PV a n k kk g th lo tt c0 x0 r0 ln co ts).t i):=by kernel_rfl
theorem AiK (n:Nat) (g:Nat->E6) (z:Nat):wvF n g z 0 = λ_=>0:=by
 funext q
 unfold wvF
 rw [show wcN (wrF g) n z 0 = 0 from rfl,if_neg (Nat.not_lt_zero _)]
theorem AiB (a:Int) (n:Nat) (f:Nat->E6) (hn:n <= 16) (b:Nat) (th lo:Nat->Int) (tt:Int) (ts:List V) (hb:b < kkN n (shG n f)):∃ F,EA F ∧
  (CN 51 [AiF a n f tt,nV b] ⟨ts,hpE a n f th lo tt b⟩).sem = some (AiF a n f tt,.all ⟨ts.map F,Alt a n f th lo tt (b+1) ++ ZN a n f tt⟩):=by
 obtain ⟨hz,hst,hlo,_⟩:=Gw hb
 have hlo:loN n (shG n f) (stN (mbF (shG n f)) n b) = b:=hlo
 have hL:=CK Ls G9
 have hrun:=AjP a n (stN (mbF (shG n f)) n b) (shG n f) th lo tt (λ_=>.und) (evF n (shG n f) (dnF n (shG n f) (loN n (shG n f)) b 0)) (rfF n (shG n f) (dnF n (shG n f) (loN n (shG n f)) b 0)) (lnR n (shG n f) b) (coR n (shG n f) b) hz hst hn (Cj (mbF (shG n f)) n (stN (mbF (shG n f)) n b)) 0 17 (Nat.zero_add _).symm (by have:=(E2 hz hst).2.1; omega)
 rw [hlo] at hrun
 obtain ⟨F,hF,h1⟩:=hrun
 refine ⟨_,(((hF.comp (Ep 11)).comp (Ep 12)).comp (Ep 7)),?_⟩
 have hp:(BK Ls G9 0 (JK (onP 0 (isP (BK Ls G9) 0 (KJ a n b (kkN n (shG n f)) (shG n f) th lo tt (λ_=>.und) (evF n (shG n f) (dnF n (shG n f) (loN n (shG n f)) b 0)) (rfF n (shG n f) (dnF n (shG n f) (loN n (shG n f)) b 0)) (lnR n (shG n f) b) (coR n (shG n f) b) (ts.map F) 0 (wcN (wrF (shG n f)) n (stN (mbF (shG n f)) n b) (Cj (mbF (shG n f)) n (stN (mbF (shG n f)) n b))) 0 0 (evF n (shG n f) (dnF n (shG n f) (loN n (shG n f)) (b+1) 0)) (rfF n (shG n f) (dnF n (shG n f) (loN n (shG n f)) (b+1) 0)) (wvF n (shG n f) (stN (mbF (shG n f)) n b) (Cj (mbF (shG n f)) n (stN (mbF (shG n f)) n b))))) (KJ a n b (kkN n (shG n f)) (shG n f) th lo tt (λ_=>.und) (evF n (shG n f) (dnF n (shG n f) (loN n (shG n f)) b 0)) (rfF n (shG n f) (dnF n (shG n f) (loN n (shG n f)) b 0)) (lnR n (shG n f) b) (coR n (shG n f) b) (ts.map F) 0 (wcN (wrF (shG n f)) n (stN (mbF (shG n f)) n b) (Cj (mbF (shG n f)) n (stN (mbF (shG n f)) n b))) 0 0 (evF n (shG n f) (dnF n (shG n f) (loN n (shG n f)) (b+1) 0)) (rfF n (shG n f) (dnF n (shG n f) (loN n (shG n f)) (b+1) 0)) (wvF n (shG n f) (stN (mbF (shG n f)) n b) (Cj (mbF (shG n f)) n (stN (mbF (shG n f)) n b)))) (BK Ls G9))) (PV a n b (kkN n (shG n f)) (shG n f) th lo tt (λ_=>.und) (evF n (shG n f) (dnF n (shG n f) (loN n (shG n f)) b 0)) (rfF n (shG n f) (dnF n (shG n f) (loN n (shG n f)) b 0)) (lnR n (shG n f) b) (coR n (shG n f) b) ts)).sem = some (KJ a n b (kkN n (shG n f)) (shG n f) th lo tt (λ_=>.und) (evF n (shG n f) (dnF n (shG n f) (loN n (shG n f)) b 0)) (rfF n (shG n f) (dnF n (shG n f) (loN n (shG n f)) b 0)) (lnR n (shG n f) b) (coR n (shG n f) b) (ts.map F) 0 (wcN (wrF (shG n f)) n (stN (mbF (shG n f)) n b) (Cj (mbF (shG n f)) n (stN (mbF (shG n f)) n b))) 0 0 (evF n (shG n f) (dnF n (shG n f) (loN n (shG n f)) (b+1) 0)) (rfF n (shG n f) (dnF n (shG n f) (loN n (shG n f)) (b+1) 0)) (wvF n (shG n f) (stN (mbF (shG n f)) n b) (Cj (mbF (shG n f)) n (stN (mbF (shG n f)) n b)))):=by
  show (AA _ _ 17 (Ck (PV a n b (kkN n (shG n f)) (shG n f) th lo tt (λ_=>.und) (evF n (shG n f) (dnF n (shG n f) (loN n (shG n f)) b 0)) (rfF n (shG n f) (dnF n (shG n f) (loN n (shG n f)) b 0)) (lnR n (shG n f) b) (coR n (shG n f) b) ts) [(11,iV 0)])).sem = _
  rw [Abj,Yo hb]
  have h2:=h1 (onP 0 (isP (BK Ls G9) 0 (KJ a n b (kkN n (shG n f)) (shG n f) th lo tt (λ_=>.und) (evF n (shG n f) (dnF n (shG n f) (loN n (shG n f)) b 0)) (rfF n (shG n f) (dnF n (shG n f) (loN n (shG n f)) b 0)) (lnR n (shG n f) b) (coR n (shG n f) b) (ts.map F) 0 (wcN (wrF (shG n f)) n (stN (mbF (shG n f)) n b) (Cj (mbF (shG n f)) n (stN (mbF (shG n f)) n b))) 0 0 (evF n (shG n f) (dnF n (shG n f) (loN n (shG n f)) (b+1) 0)) (rfF n (shG n f) (dnF n (shG n f) (loN n (shG n f)) (b+1) 0)) (wvF n (shG n f) (stN (mbF (shG n f)) n b) (Cj (mbF (shG n f)) n (stN (mbF (shG n f)) n b))))) (KJ a n b (kkN n (shG n f)) (shG n f) th lo tt (λ_=>.und) (evF n (shG n f) (dnF n (shG n f) (loN n (shG n f)) b 0)) (rfF n (shG n f) (dnF n (shG n f) (loN n (shG n f)) b 0)) (lnR n (shG n f) b) (coR n (shG n f) b) (ts.map F) 0 (wcN (wrF (shG n f)) n (stN (mbF (shG n f)) n b) (Cj (mbF (shG n f)) n (stN (mbF (shG n f)) n b))) 0 0 (evF n (shG n f) (dnF n (shG n f) (loN n (shG n f)) (b+1) 0)) (rfF n (shG n f) (dnF n (shG n f) (loN n (shG n f)) (b+1) 0)) (wvF n (shG n f) (stN (mbF (shG n f)) n b) (Cj (mbF (shG n f)) n (stN (mbF (shG n f)) n b)))) (BK Ls G9)) ts ts (λi=>nth (PV a n b (kkN n (shG n f)) (shG n f) th lo tt (λ_=>.und) (evF n (shG n f) (dnF n (shG n f) (loN n (shG n f)) b 0)) (rfF n (shG n f) (dnF n (shG n f) (loN n (shG n f)) b 0)) (lnR n (shG n f) b) (coR n (shG n f) b) ts).t i)
  rw [AiK] at h2
  exact h2
 have hkn:kkN n (shG n f) <= n:=AV _ _
 have hw:=AlG (BK Ls G9) (isP (BK Ls G9) 0 (KJ a n b (kkN n (shG n f)) (shG n f) th lo tt (λ_=>.und) (evF n (shG n f) (dnF n (shG n f) (loN n (shG n f)) b 0)) (rfF n (shG n f) (dnF n (shG n f) (loN n (shG n f)) b 0)) (lnR n (shG n f) b) (coR n (shG n f) b) (ts.map F) 0 (wcN (wrF (shG n f)) n (stN (mbF (shG n f)) n b) (Cj (mbF (shG n f)) n (stN (mbF (shG n f)) n b))) 0 0 (evF n (shG n f) (dnF n (shG n f) (loN n (shG n f)) (b+1) 0)) (rfF n (shG n f) (dnF n (shG n f) (loN n (shG n f)) (b+1) 0)) (wvF n (shG n f) (stN (mbF (shG n f)) n b) (Cj (mbF (shG n f)) n (stN (mbF (shG n f)) n b))))) a n b (kkN n (shG n f)) (shG n f) th lo tt (λ_=>.und) (evF n (shG n f) (dnF n (shG n f) (loN n (shG n f)) b 0)) (rfF n (shG n f) (dnF n (shG n f) (loN n (shG n f)) b 0)) (lnR n (shG n f) b) (coR n (shG n f) b) ts (ts.map F) 0 (wcN (wrF (shG n f)) n (stN (mbF (shG n f)) n b) (Cj (mbF (shG n f)) n (stN (mbF (shG n f)) n b))) 0 0 (evF n (shG n f) (dnF n (shG n f) (loN n (shG n f)) (b+1) 0)) (rfF n (shG n f) (dnF n (shG n f) (loN n (shG n f)) (b+1) 0)) (wvF n (shG n f) (stN (mbF (shG n f)) n b) (Cj (mbF (shG n f)) n (stN (mbF (shG n f)) n b)))
  (by simp [AR]) (A4.2 λi _=>A4.2 λ_ _=>rfl) (decide_eq_true (by omega)) (BM (by omega)) (Ai hp)
 have e:=PU (τ:=tab) (G:=Gl) (fn:=Tryz.f51) (CLe.refl (Ak Ui)) (Ar (k:=0) hL hL) _ hw
 rw [Ea,Ve,Aa7,AbE hb,Cg,Cg,Cg,List.map_map,List.map_map,List.map_map] at e
 rw [Y7]
 exact Tc (st:=⟨ts,hpE a n f th lo tt b⟩) (Γ:=cxZ Gl Ui Ls G9) e rfl
def slV (w4 w15 w19:V) (u:Nat->V):List V:=(jsV 132 0 u [(4,w4),(15,w15),(19,w19)])
def RU (a:Int) (n:Nat) (f:Nat->E6) (tt:Int) (b kk:Nat) (j:Nat->V):List V:=(jsV 132 0 j [(4,(.ptr 0 0)),(15,(.ptr 4 0)),(19,(nV b)),(122,(nV b)),(123,(.ptr 4 4)),(124,(nV kk)),(125,(bV (ilt (ofNat b) (ofNat kk)))),(128,(.agg [iV a,.ref 1,.ref 5,iV tt,nV kk,.ref 6,.jref 7])),(129,(nV b))])
theorem Acc (a:Int) (n:Nat) (f:Nat->E6) (tt:Int) (b kk:Nat) (j:Nat->V):(jsV 132 0 j [(4,(.ptr 0 0)),(15,(.ptr 4 0)),(19,(nV b)),(122,(nV b)),(123,(.ptr 4 4)),(124,(nV kk)),(125,(bV (ilt (ofNat b) (ofNat kk)))),(128,(.agg [(iV a),(.ref 1),(.ref 5),(iV tt),(nV kk),(.ref 6),(.jref 7)])),(129,(nV b))]) = RU a n f tt b kk j:=rfl
theorem YR (a:Int) (n:Nat) (f:Nat->E6) (tt:Int) (b kk:Nat) (j:Nat->V) (F:V->V):(RU a n f tt b kk j).map F = slV (F (.ptr 0 0)) (F (.ptr 4 0)) (F (nV b)) (λi=>F (nth (RU a n f tt b kk j) i)):=by kernel_rfl
theorem ZC (L:LT) (a:Int) (n:Nat) (f:Nat->E6) (hn:n <= 16) (th lo:Nat->Int) (tt:Int):∀ (e b:Nat) (j:Nat->V) (q:Nat),kkN n (shG n f) = b+e->e < q ->
  (AA (Ld L) (LG a n f) q (Nt a n f b (kkN n (shG n f)) tt th lo (evF n (shG n f) (dnF n (shG n f) (loN n (shG n f)) b 0)) (rfF n (shG n f) (dnF n (shG n f) (loN n (shG n f)) b 0)) (lnR n (shG n f) b) (coR n (shG n f) b) j)).sem = some (KN a n f (kkN n (shG n f)) (kkN n (shG n f)) tt th lo (evF n (shG n f) (dnF n (shG n f) (loN n (shG n f)) (kkN n (shG n f)) 0)) (rfF n (shG n f) (dnF n (shG n f) (loN n (shG n f)) (kkN n (shG n f)) 0)) (lnR n (shG n f) (kkN n (shG n f))) (coR n (shG n f) (kkN n (shG n f))))
 | 0,b,j,q+1,h,_=>by
  have h:kkN n (shG n f) = b:=h
  rw [h]
  rw [show Ld L = AD tab ⟨CN,L,Gl⟩ (As Tryz.f23 4) 4 from rfl]
  exact Ab (Akb L a n f b b tt th lo (evF n (shG n f) (dnF n (shG n f) (loN n (shG n f)) b 0)) (rfF n (shG n f) (dnF n (shG n f) (loN n (shG n f)) b 0)) (lnR n (shG n f) b) (coR n (shG n f) b) j (A9 (Nat.le_refl _)))
 | e+1,b,j,q+1,h,h2=>by
  have hl:b < kkN n (shG n f):=by omega
  have hkn:kkN n (shG n f) <= n:=AV _ _
  have next:=λj=>ZC L a n f hn th lo tt e (b+1) j q (by omega) (by omega)
  obtain ⟨F,hF,hc⟩:=AiB a n f hn b th lo tt (RU a n f tt b (kkN n (shG n f)) j) hl
  have hts:(RU a n f tt b (kkN n (shG n f)) j).map F = Uw b (λi=>F (nth (RU a n f tt b (kkN n (shG n f)) j) i)):=by
   rw [YR,hF.2 0 0 (by omega),hF.2 4 0 (by omega)]
   unfold nV iV
   rw [hF.1]
   rfl
  rw [hts] at hc
  have hr:=λq59=>Aka Adf a n f b (kkN n (shG n f)) tt th lo (evF n (shG n f) (dnF n (shG n f) (loN n (shG n f)) b 0)) (rfF n (shG n f) (dnF n (shG n f) (loN n (shG n f)) b 0)) (lnR n (shG n f) b) (coR n (shG n f) b) (λi=>F (nth (RU a n f tt b (kkN n (shG n f)) j) i)) (evF n (shG n f) (dnF n (shG n f) (loN n (shG n f)) (b+1) 0)) (rfF n (shG n f) (dnF n (shG n f) (loN n (shG n f)) (b+1) 0)) (lnR n (shG n f) (b+1)) (coR n (shG n f) (b+1)) (λ_=>true) (λ_=>.und) (ZN a n f tt) q59 j (ofNat_lt hl)
  rw [Acc a n f] at hr
  have hr:=hr (isC CN 51 (AiF a n f tt,.all ⟨Uw b (λi=>F (nth (RU a n f tt b (kkN n (shG n f)) j) i)),Alt a n f th lo tt (b+1) ++ ZN a n f tt⟩)) (Tb hc)
  have hr':=Db (f':=Ld L) (l:=LG a n f) (LQ (τ:=tab) (G:=Gl) (Aag (CLe.refl CN)) (WB L) (As Tryz.f23 4) 4 (Nt a n f b (kkN n (shG n f)) tt th lo (evF n (shG n f) (dnF n (shG n f) (loN n (shG n f)) b 0)) (rfF n (shG n f) (dnF n (shG n f) (loN n (shG n f)) b 0)) (lnR n (shG n f) b) (coR n (shG n f) b) j)) hr
  rw [Ab hr',Aq,An hl (by omega)]
  exact next (λ_=>.und)
theorem Vh {L N:LT} (hL:LLe L L) (hN:LLe N N) (k:Nat) (r:Ex × St):LLe (onP k (isP L k r) r N) (onP k (isP L k r) r N):=λid f f' st hf r' hr=>by
 unfold onP at hr ⊢
 cases hk:Nat.beq id k with
 | true =>
  rw [hk] at hr
  obtain ⟨h1,h2⟩:=Ad hr
  unfold isP at h1
  have h1:=@of_decide_eq_true _ (Classical.propDecidable _) h1
  have h3:isP L k r f' st = true:=Ai (hL k f f' st hf _ h1)
  show sel (isP L k r f' st) _ _ = _
  rw [h3]
  exact h2
 | false =>
  rw [hk] at hr
  exact hN id f f' st hf _ hr
def AiI:List (Nat × List (Nat × V)):=[(0,[(5,evV ⟨0,0,0,0,0⟩),(6,iV (-1))]),(4,[(7,iV 0)])]
def AeD (a:Int) (n:Nat) (f:Nat->E6):List (Nat × Lp):=[(0,Je a n f),(2,LH a n f),(4,LG a n f)]
noncomputable def Yy (a:Int) (n:Nat) (f:Nat->E6):Cx:=⟨CN,BK AiI (AeD a n f),Gl⟩
theorem Aix (a:Int) (n:Nat) (f:Nat->E6):Ck (Abn a n f) [(5,evV ⟨0,0,0,0,0⟩),(6,iV (-1))] = Jx a n f 0 0 0 (thF n (shG n f)) (loF n (shG n f)) (λ_=>evV ⟨0,0,0,0,0⟩) (λ_=>-1) (λi=>nth (Abn a n f).t i):=by kernel_rfl
theorem AaW (a:Int) (n:Nat) (f:Nat->E6) (tt:Int) (kk:Nat) (th lo:Nat->Int) (x:Nat->Ev5) (r:Nat->Int):Ck (R5 a n f tt kk th lo x r) [(7,iV 0)] = Nt a n f 0 kk tt th lo x r (λ_=>0) (λ_ _=>0) (λi=>nth (R5 a n f tt kk th lo x r).t i):=by kernel_rfl
theorem Ali (n:Nat) (g:Nat->E6):lnR n g 0 = λ_=>0:=by funext i; simp [lnR]
theorem Al7 (n:Nat) (g:Nat->E6):coR n g 0 = λ_ _=>0:=by funext i q; simp [coR]
theorem AeU (n:Nat) (g:Nat->E6):dnF n g (loN n g) 0 0 = λ_=>false:=by
 funext j
 unfold dnF
 rw [Ab2]
 simp
theorem YN (n:Nat) (g:Nat->E6):upX n g n = evF n g (dnF n g (loN n g) 0 0):=by
 rw [AeU,VY,Ab3]
def AkL (n:Nat) (g:Nat->E6):List Blk:=[.row 57 6 n (λi=>eV (g i)),.row 61 5 n (λi=>evV (evF n g (dnF n g (loN n g) (kkN n g) 0) i)),.row 3 1 n (λi=>iV (rfF n g (dnF n g (loN n g) (kkN n g) 0) i)),
 .jag ⟨24,1,kkN n g,λ_=>.und,0,3,1,λ_=>true,lnR n g (kkN n g),λk i=>iV (coR n g (kkN n g) k i)⟩]
theorem AcM {n:Nat} {g:Nat->E6} (hk:0 < kkN n g):A0 (AkL n g) (Ny n g):=by
 have hd:∀ i,i < n->dnF n g (loN n g) (kkN n g) 0 i = true:=λi hi=>by
  unfold dnF
  rw [decide_eq_true hi,T6]
  ·rfl
  ·exact SO hi hk
 refine .cons (λ_ _=>rfl) (.cons (λi hi=>?_) (.cons (λi hi=>?_) (.consB (.jag (λ_ _=>.inr rfl) (λ_ _=>rfl) (λk hk'=>?_) (λk hk' q hq=>?_)) (.refl []))))
 ·rw [CF hi,CF hi,hd i hi]
 ·unfold rfF
  rw [hd i hi]
 ·have hk':k < kkN n g:=hk'
  show lnN _ _ n k = lnR n g (kkN n g) k
  unfold lnR
  rw [if_pos hk']
 ·have hk':k < kkN n g:=hk'
  have hq:q < lnR n g (kkN n g) k:=hq
  unfold lnR at hq
  rw [if_pos hk'] at hq
  show iV _ = iV _
  unfold coR
  rw [if_pos ⟨hk',hq⟩]
theorem Age {a:Int} {n:Nat} {f:Nat->E6} (h8:Be n = true) (hc:ieq (BN a n f) 0 = true) :
  (Au (Ah tab (Yy a n f) Tryz.f23 [iV a,A5 n f] [])).sem = some (.tup [Nx a n (shG n f),iV 0,iV 0],AkL n (shG n f)):=by
 have hy:=D2 hc
 have hlo:=hy.lo
 have hhi:=hy.hi
 have hL:=CK AiI (AeD a n f)
 have hg:=Fj hy
 have hko:rN (obF (shG n f)) n n = ttN n (shG n f):=QP hg.outer
 have hkm:rN (mbF (shG n f)) n n = kkN n (shG n f):=QP hg.moves
 have hkl:kkN n (shG n f) <= n:=AV _ _
 unfold Yy
 have hQ:=Vh hL (Vh hL hL 4 (KN a n f (kkN n (shG n f)) (kkN n (shG n f)) (ofNat (ttN n (shG n f))) (thF n (shG n f)) (loF n (shG n f)) (evF n (shG n f) (dnF n (shG n f) (loN n (shG n f)) (kkN n (shG n f)) 0)) (rfF n (shG n f) (dnF n (shG n f) (loN n (shG n f)) (kkN n (shG n f)) 0)) (lnR n (shG n f) (kkN n (shG n f))) (coR n (shG n f) (kkN n (shG n f))))) 0 (T4 a n f n (ofNat (ttN n (shG n f))) (ofNat (kkN n (shG n f))) (thF n (shG n f)) (loF n (shG n f)) (λi=>evV (upX n (shG n f) n i)) (λ_=>-1))
 refine A1 (Ar (Ar hL hL) hL) _ (Amt _ _ _ a n f (ofNat (ttN n (shG n f))) (kkN n (shG n f)) (thF n (shG n f)) (loF n (shG n f)) (upX n (shG n f) n) (λ_=>-1)
  (evF n (shG n f) (dnF n (shG n f) (loN n (shG n f)) (kkN n (shG n f)) 0)) (rfF n (shG n f) (dnF n (shG n f) (loN n (shG n f)) (kkN n (shG n f)) 0)) (lnR n (shG n f) (kkN n (shG n f))) (coR n (shG n f) (kkN n (shG n f))) h8 hc (T8.2 ⟨a,hy⟩) hg.may E0 (Ai ?_) (Ai ?_))
 ·show (AA _ (Je a n f) (n+1) (Ck _ [(5,evV ⟨0,0,0,0,0⟩),(6,iV (-1))])).sem = _
  rw [Aix]
  have h:=λM hM m2 j=>Ae0 M hM a n f m2 hhi n 0 j (n+1) (by omega) (by omega)
  rw [Aej,hko,hkm] at h
  exact h _ hQ (λg st=>rfl) _
 ·show (AA _ (LG a n f) 17 (Ck _ [(7,iV 0)])).sem = _
  rw [AaW]
  have h:=λL j=>ZC L a n f hhi (thF n (shG n f)) (loF n (shG n f)) (ofNat (ttN n (shG n f))) (kkN n (shG n f)) 0 j 17 (by omega) (by omega)
  rw [<- YN,Ali,Al7,show rfF n (shG n f) (dnF n (shG n f) (loN n (shG n f)) 0 0) = λ_=>-1 by rw [AeU]; rfl] at h
  exact h _ _
theorem p15:A6 Tryz.prog Gl 23 ofT:=by
 refine Av AI mixed Tryz.func23 (by kernel_rfl) (by kernel_rfl) λvs v h' h=>?_
 unfold ofT at h
 split at h
 ·rename_i a u
  obtain ⟨n,f,ha,h1⟩:=Cc h
  obtain ⟨h8,hq⟩:=Ad h1
  have hA:Bm [iV a,u] [iV a,A5 n f]:=λS w cs hv=>by
   obtain ⟨c,l,rfl,q1,d,l',rfl,q2,q3⟩:=hv
   exact ⟨c,_,rfl,q1,d,l',rfl,ha S w d q2,q3⟩
  have hx:Bg Tryz.prog (Yy a n f).base ∧ BF (Yy a n f):=⟨Y6,SN rfl⟩
  cases hc:ieq (BN a n f) 0 with
  | true =>
   rw [hc] at hq
   have:=Ac hq
   simp only [Prod.mk.injEq] at this
   obtain ⟨rfl,rfl⟩:=this
   have hg:=Fj (D2 hc)
   have hm:=hg.moves
   exact ⟨_,Yy a n f,_,hA,rfl,hx.1,hx.2,Age h8 hc,AcM (by show 0 < Aj (λk=>Aw (shG n f k)) n; omega)⟩
  | false =>
   rw [hc] at hq
   have:=Ac hq
   simp only [Prod.mk.injEq] at this
   obtain ⟨rfl,rfl⟩:=this
   exact ⟨_,Yy a n f,_,hA,rfl,hx.1,hx.2,Amu _ a n f h8 hc,A0.refl _⟩
 ·cases h
end Go.Proofs.YthlojajaenfidaaGreatDoor.Sh
