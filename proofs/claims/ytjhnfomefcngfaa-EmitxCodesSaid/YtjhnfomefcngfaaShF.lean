/-
  Layer 7: the document's shape of a cycle. No conditions.
-/
import Derived.Test.YtjhnfomefcngfaaShE
namespace Go.Proofs.Ytjhnfomefcngfaa.Sh
open Go.Sy Ed
open Int (ofNat)
set_option maxHeartbeats 1000000
set_option maxRecDepth 4000
def AcD:List V->T (V × List Blk):=GS λn f=>.br (Bj n) (.br (CJ n f) (.leaf (.tup [.ref 0,iV 0],[.row 3 1 n λk=>iV (A0 (λk=>Ax (f k)) n k)])) .fail) .fail
def AcC:List V->T (V × List Blk):=GS λn f=>.br (Bj n) (.br (CJ n f) (.leaf (.tup [.ref 0,iV 0],[.row 3 1 n λk=>iV (A0 (λk=>Aw (f k)) n k)])) .fail) .fail
theorem p57:A7 Try.prog Gl 57 AcD:=A7.congr Ed.p53 λvs r h=>by
 obtain ⟨v,rfl⟩:∃ v,vs = [v]:=by
  unfold AcD GS at h
  split at h
  ·exact ⟨_,rfl⟩
  ·cases h
 unfold AcD GS at h
 unfold Kg GS
 dsimp only at h ⊢
 unfold apL at h ⊢
 split at h
 ·rename_i n g hg
  obtain ⟨h1,h⟩:=Ad h
  dsimp only at h
  obtain ⟨h2,h⟩:=Ad h
  obtain ⟨h3,h⟩:=Ad h
  rw [h1]
  dsimp only
  rw [h2,h3]
  exact h
 ·cases h
theorem p58:A7 Try.prog Gl 58 AcC:=A7.congr Ed.p54 λvs r h=>by
 obtain ⟨v,rfl⟩:∃ v,vs = [v]:=by
  unfold AcC GS at h
  split at h
  ·exact ⟨_,rfl⟩
  ·cases h
 unfold AcC GS at h
 unfold Kg GS
 dsimp only at h ⊢
 unfold apL at h ⊢
 split at h
 ·rename_i n g hg
  obtain ⟨h1,h⟩:=Ad h
  dsimp only at h
  obtain ⟨h2,h⟩:=Ad h
  obtain ⟨h3,h⟩:=Ad h
  rw [h1]
  dsimp only
  rw [h2,h3]
  exact h
 ·cases h
noncomputable def Aj7:List (Nat × (List V->T (V × List Blk))):=[(19,Yb),(56,AaW),(57,AcD),(58,AcC)]
theorem Aca:AA Try.prog Gl Aj7:=.cons p49 <| .cons p56 <| .cons p57 <| .cons p58 .nil
def G6:List (Nat × Lp):=[(0,⟨(bmK 79 0 [1,2,4,5,6,7,8,9]),12,bmK 79 0 [2,4,5],12,17⟩)]
def Lk:List (Nat × List (Nat × V)):=[(0,[(11,iV 0)])]
noncomputable def Da:FuncId->List V->St->T (V × Res):=KS [(59,Kz tab (cxZ Gl Uc Lk G6) Try.f59)] (Am Aj7)
theorem Yd:Bk Try.prog ⟨Da,Gl⟩:=GL AN (.cons rfl AL (JB VK Lk G6).1 (JB VK Lk G6).2 Try.func59 (by kernel_rfl) (by kernel_rfl) .nil) (DW rfl Aca)
theorem AmN (L:LT) (a:Int) (n:Nat) (f:Nat->E6) (h0:Bj n = true) (h1:ieq (CV a n f) 0 = false):(Ar (Ai tab ⟨Da,L,Gl⟩ Try.f15 [iV a,.sl 6 n λi=>eV (f i)] [])).sem = some ((.tup [(.agg [(iV 0),(.ref 0),(.ref 1),(iV 0),(iV 0),(.ref 2),(.jref 3)]),(iV (CV a n f)),(iV (OE a n f))]),[(.row 44 6 0 (λ_=>.und)),(.row 40 5 0 (λ_=>.und)),r3Z,jgZ]):=by
 exact Aa (ks:=[kL n,kn h0,kN (kn h1)]) (by kernel_rfl)
def Jg (a:Int) (n:Nat) (f:Nat->E6):Lp:=⟨(bmK 132 0 [4,5,6,9,10,11,13,15,16]),8,bmK 132 0 [4,5,6,15],8,n+1⟩
def Jv (a:Int) (n:Nat) (f:Nat->E6) (b:Nat) (tt kk:Int) (th lo:Nat->Int) (x:Nat->V) (r:Nat->Int) (j:Nat->V):St:=⟨(jsV 132 0 j [(4,.ptr 0 0),(5,iV 0),(6,iV 0),(9,.ref 1),(10,nV n),(11,.ref 2),(13,.ref 3),(15,.ptr 4 0),(16,nV b)]),[c7Z,.row 44 6 n (λi=>eV (shG n f i)),.row 3 1 n (λk=>iV (th k)),.row 3 1 n (λk=>iV (lo k)),.cells [iV a,.ref 1,.ref 5,iV tt,iV kk,.ref 6,.jref 7],.row 40 5 b x,.row 3 1 b (λi=>iV (r i)),jgZ]⟩
def T6 (a:Int) (n:Nat) (f:Nat->E6) (b:Nat) (tt kk:Int) (th lo:Nat->Int) (x:Nat->V) (r:Nat->Int):Ex × St:=(.ex 0,⟨(jsV 132 0 (λ_=>.und) [(4,.ptr 0 0),(5,iV 0),(6,iV 0),(15,.ptr 4 0)]),[c7Z,.row 44 6 n (λi=>eV (shG n f i)),.row 3 1 n (λk=>iV (th k)),.row 3 1 n (λk=>iV (lo k)),.cells [iV a,.ref 1,.ref 5,iV tt,iV kk,.ref 6,.jref 7],.row 40 5 b x,.row 3 1 b (λi=>iV (r i)),jgZ]⟩)
noncomputable def FH (L:LT):St->T (Ex × St):=λst=>AC tab ⟨Da,L,Gl⟩ (Au Try.f15 0) 0 st
theorem Ak1 (L:LT) (a:Int) (n:Nat) (f:Nat->E6) (b:Nat) (tt kk:Int) (th lo:Nat->Int) (x:Nat->V) (r:Nat->Int)  (j:Nat->V) (h0:ilt (ofNat b) (ofNat n) = false):Ah (FH L) (Jg a n f) (Jv a n f b tt kk th lo x r j) = some ((.ex 0),⟨(jsV 132 0 (λ_=>.und) [(4,(.ptr 0 0)),(5,(iV 0)),(6,(iV 0)),(15,(.ptr 4 0))]),[c7Z,(.row 44 6 n (λi=>(eV (shG n f i)))),(.row 3 1 n (λk=>(iV (th k)))),(.row 3 1 n (λk=>(iV (lo k)))),(.cells [(iV a),(.ref 1),(.ref 5),(iV tt),(iV kk),(.ref 6),(.jref 7)]),(.row 40 5 b x),(.row 3 1 b (λi=>(iV (r i)))),jgZ]⟩):=by
 exact Aa (ks:=[kn h0]) (by kernel_rfl)
def AaB (a:Int) (n:Nat) (f:Nat->E6) :St:=⟨(jsV 132 0 (λ_=>A9) [(0,(iV a)),(1,(.sl 6 n (λi=>eV (f i)))),(4,(.ptr 0 0)),(5,(iV 0)),(6,(iV 0)),(7,(iV (CV a n f))),(8,(iV (OE a n f))),(9,(.ref 1)),(10,(nV n)),(11,(.ref 2)),(12,(iV 0)),(13,(.ref 3)),(14,(iV 0)),(15,(.ptr 4 0)),(16,(iV 0)),(20,(.tup [iV (CV a n f),iV (OE a n f)])),(21,(iV a)),(22,(.sl 6 n (λi=>eV (f i)))),(23,(.tup [iV (CV a n f),iV (OE a n f)])),(24,(iV (CV a n f))),(25,(iV (OE a n f))),(26,(iV (CV a n f))),(27,(bV (AG (ieq (CV a n f) 0)))),(31,(.sl 6 n (λi=>eV (f i)))),(32,(.ref 1)),(33,(.ref 1)),(34,(nV n)),(35,(.tup [.ref 2,iV 0])),(36,(.ref 1)),(37,(.tup [.ref 2,iV 0])),(38,(.ref 2)),(39,(iV 0)),(40,(.tup [.ref 3,iV 0])),(41,(.ref 1)),(42,(.tup [.ref 3,iV 0])),(43,(.ref 3)),(44,(iV 0)),(45,(iV a)),(46,(.ref 1)),(47,(.agg [iV a,.ref 1,.nilS,iV 0,iV 0,.nilS,.nilS]))]),[c7Z,.row 44 6 n (λi=>eV (shG n f i)),.row 3 1 n (λk=>iV (A0 (λk=>Ax (shG n f k)) n k)),.row 3 1 n (λk=>iV (A0 (λk=>Aw (shG n f k)) n k)),.cells [iV a,.ref 1,.ref 5,iV 0,iV 0,.ref 6,.jref 7],.row 40 5 0 (λ_=>.und),r3Z,jgZ]⟩
def Hw (a:Int) (n:Nat) (f:Nat->E6) (b:Nat) (tt kk:Int) (th lo:Nat->Int) (x:Nat->V) (r:Nat->Int) (j:Nat->V):St:=⟨(jsV 132 0 j [(4,(.ptr 0 0)),(5,(iV 0)),(6,(iV 0)),(9,(.ref 1)),(10,(nV n)),(11,(.ref 2)),(13,(.ref 3)),(15,(.ptr 4 0)),(16,(nV b)),(17,(.ptr 8 0)),(18,(iV 0)),(48,(nV b)),(49,(nV n)),(50,(bV (ilt (ofNat b) (ofNat n)))),(53,(.ref 2)),(54,(nV b)),(55,(.ept 2 1 b 0)),(56,(iV (th b))),(57,(.ref 1)),(58,(nV b)),(59,(.ept 1 6 b 0)),(60,(.ept 1 6 b 3)),(61,(iV ((shG n f b)).src)),(62,(.ref 3)),(63,(nV b)),(64,(.ept 3 1 b 0)),(65,(iV (lo b))),(66,(.agg [iV (th b),iV 0,iV ((shG n f b)).src,iV (lo b),iV 0]))]),[c7Z,.row 44 6 n (λi=>eV (shG n f i)),.row 3 1 n (λk=>iV (th k)),.row 3 1 n (λk=>iV (lo k)),.cells [iV a,.ref 1,.ref 5,iV tt,iV kk,.ref 6,.jref 7],.row 40 5 b x,.row 3 1 b (λi=>iV (r i)),jgZ,.cells [iV (th b),iV 0,iV ((shG n f b)).src,iV (lo b),iV 0]]⟩
def L6 (a:Int) (n:Nat) (f:Nat->E6):Lp:=⟨(bmK 132 0 [4,5,6,9,10,11,13,15,16,17,18]),9,bmK 132 0 [4,5,6,9,10,11,13,15,16,17],9,n+1⟩
def Nz (a:Int) (n:Nat) (f:Nat->E6) (b:Nat) (tt kk:Int) (th lo:Nat->Int) (x:Nat->V) (r:Nat->Int) (p:Int) (c:Nat) (j:Nat->V):St:=⟨(jsV 132 0 j [(4,.ptr 0 0),(5,iV 0),(6,iV 0),(9,.ref 1),(10,nV n),(11,.ref 2),(13,.ref 3),(15,.ptr 4 0),(16,nV b),(17,.ptr 8 0),(18,nV c)]),[c7Z,.row 44 6 n (λi=>eV (shG n f i)),.row 3 1 n (λk=>iV (th k)),.row 3 1 n (λk=>iV (lo k)),.cells [iV a,.ref 1,.ref 5,iV tt,iV kk,.ref 6,.jref 7],.row 40 5 b x,.row 3 1 b (λi=>iV (r i)),jgZ,.cells [iV (th b),iV p,iV ((shG n f b)).src,iV (lo b),iV 0]]⟩
def Ey (a:Int) (n:Nat) (f:Nat->E6) (b:Nat) (tt kk:Int) (th lo:Nat->Int) (x:Nat->V) (r:Nat->Int) (p:Int) (c:Nat):Ex × St:=(.ex 2,⟨(jsV 132 0 (λ_=>.und) [(4,.ptr 0 0),(5,iV 0),(6,iV 0),(9,.ref 1),(10,nV n),(11,.ref 2),(13,.ref 3),(15,.ptr 4 0),(16,nV b),(17,.ptr 8 0)]),[c7Z,.row 44 6 n (λi=>eV (shG n f i)),.row 3 1 n (λk=>iV (th k)),.row 3 1 n (λk=>iV (lo k)),.cells [iV a,.ref 1,.ref 5,iV tt,iV kk,.ref 6,.jref 7],.row 40 5 b x,.row 3 1 b (λi=>iV (r i)),jgZ,.cells [iV (th b),iV p,iV ((shG n f b)).src,iV (lo b),iV 0]]⟩)
noncomputable def DY (L:LT):St->T (Ex × St):=λst=>AC tab ⟨Da,L,Gl⟩ (Au Try.f15 2) 2 st
section
variable (L:LT) (a:Int) (n:Nat) (f:Nat->E6) (b:Nat) (tt kk:Int) (th lo:Nat->Int) (x:Nat->V) (r:Nat->Int) (p:Int) (c:Nat)  (j:Nat->V)
include L a n f b tt kk th lo x r p c j
theorem Akv (h0:ilt (ofNat c) (ofNat b) = false):Ah (DY L) (L6 a n f) (Nz a n f b tt kk th lo x r p c j) = some ((.ex 2),⟨(jsV 132 0 (λ_=>.und) [(4,(.ptr 0 0)),(5,(iV 0)),(6,(iV 0)),(9,(.ref 1)),(10,(nV n)),(11,(.ref 2)),(13,(.ref 3)),(15,(.ptr 4 0)),(16,(nV b)),(17,(.ptr 8 0))]),[c7Z,(.row 44 6 n (λi=>(eV (shG n f i)))),(.row 3 1 n (λk=>(iV (th k)))),(.row 3 1 n (λk=>(iV (lo k)))),(.cells [(iV a),(.ref 1),(.ref 5),(iV tt),(iV kk),(.ref 6),(.jref 7)]),(.row 40 5 b x),(.row 3 1 b (λi=>(iV (r i)))),jgZ,(.cells [(iV (th b)),(iV p),(iV ((shG n f b)).src),(iV (lo b)),(iV 0)])]⟩):=by
 exact Aa (ks:=[kn h0]) (by kernel_rfl)
theorem Aku (h0:ilt (ofNat c) (ofNat b) = true) (h19:Ak (ile 0 (ofNat c)) (ilt (ofNat c) (ofNat n)) = true) (h1:nlt c n = true) (h21:Ak (ile 0 (ofNat b)) (ilt (ofNat b) (ofNat n)) = true) (h2:nlt b n = true) (h3:ieq (th c) (th b) = false):Ah (DY L) (L6 a n f) (Nz a n f b tt kk th lo x r p c j) = some (.nm,⟨(jsV 132 0 (λ_=>.und) [(4,(.ptr 0 0)),(5,(iV 0)),(6,(iV 0)),(9,(.ref 1)),(10,(nV n)),(11,(.ref 2)),(13,(.ref 3)),(15,(.ptr 4 0)),(16,(nV b)),(17,(.ptr 8 0)),(18,(iV (wr .i64 (Af (ofNat c) 1))))]),[c7Z,(.row 44 6 n (λi=>(eV (shG n f i)))),(.row 3 1 n (λk=>(iV (th k)))),(.row 3 1 n (λk=>(iV (lo k)))),(.cells [(iV a),(.ref 1),(.ref 5),(iV tt),(iV kk),(.ref 6),(.jref 7)]),(.row 40 5 b x),(.row 3 1 b (λi=>(iV (r i)))),jgZ,(.cells [(iV (th b)),(iV p),(iV ((shG n f b)).src),(iV (lo b)),(iV 0)])]⟩):=by
 exact Aa (ks:=[kn h0,kn h19,kn h1,kn h21,kn h2,kn h3]) (by kernel_rfl)
theorem Akt (h0:ilt (ofNat c) (ofNat b) = true) (h19:Ak (ile 0 (ofNat c)) (ilt (ofNat c) (ofNat n)) = true) (h1:nlt c n = true) (h21:Ak (ile 0 (ofNat b)) (ilt (ofNat b) (ofNat n)) = true) (h2:nlt b n = true) (h3:ieq (th c) (th b) = true):Ah (DY L) (L6 a n f) (Nz a n f b tt kk th lo x r p c j) = some (.nm,⟨(jsV 132 0 (λ_=>.und) [(4,(.ptr 0 0)),(5,(iV 0)),(6,(iV 0)),(9,(.ref 1)),(10,(nV n)),(11,(.ref 2)),(13,(.ref 3)),(15,(.ptr 4 0)),(16,(nV b)),(17,(.ptr 8 0)),(18,(iV (wr .i64 (Af (ofNat c) 1))))]),[c7Z,(.row 44 6 n (λi=>(eV (shG n f i)))),(.row 3 1 n (λk=>(iV (th k)))),(.row 3 1 n (λk=>(iV (lo k)))),(.cells [(iV a),(.ref 1),(.ref 5),(iV tt),(iV kk),(.ref 6),(.jref 7)]),(.row 40 5 b x),(.row 3 1 b (λi=>(iV (r i)))),jgZ,(.cells [(iV (th b)),(iV (wr .i64 (Af p 1))),(iV ((shG n f b)).src),(iV (lo b)),(iV 0)])]⟩):=by
 exact Aa (ks:=[kn h0,kn h19,kn h1,kn h21,kn h2,kn h3]) (by kernel_rfl)
end
section
variable (L:LT) (p2:PT) (a:Int) (n:Nat) (f:Nat->E6) (b:Nat) (tt kk:Int) (th lo:Nat->Int) (x:Nat->V) (r:Nat->Int) (p:Int) (j:Nat->V)
include L p2 a n f b tt kk th lo x r p j
theorem Ag3 (h0:ilt (ofNat b) (ofNat n) = true) (h17:ile 0 (ofNat b) = true) (h18:nlt b n = true) (h19:AY b 1 40 = true) (h20:AY b 1 8 = true) (h1:ile tt (th b) = true) (h2:ile kk (lo b) = true) (hp2:p2 (DY (onP 2 p2 (Ey a n f b tt kk th lo x r p b) L)) (Hw a n f b tt kk th lo x r j) = true):Ah (FH (onP 2 p2 (Ey a n f b tt kk th lo x r p b) L)) (Jg a n f) (Jv a n f b tt kk th lo x r j) = some (.nm,⟨(jsV 132 0 (λ_=>.und) [(4,(.ptr 0 0)),(5,(iV 0)),(6,(iV 0)),(9,(.ref 1)),(10,(nV n)),(11,(.ref 2)),(13,(.ref 3)),(15,(.ptr 4 0)),(16,(iV (wr .i64 (Af (ofNat b) 1))))]),[c7Z,(.row 44 6 n (λi=>(eV (shG n f i)))),(.row 3 1 n (λk=>(iV (th k)))),(.row 3 1 n (λk=>(iV (lo k)))),(.cells [(iV a),(.ref 1),(.ref 5),(iV (wr .i64 (Af (th b) 1))),(iV (wr .i64 (Af (lo b) 1))),(.ref 6),(.jref 7)]),(.row 40 5 (AQ b 1) (A1 b x (.agg [(iV (th b)),(iV p),(iV ((shG n f b)).src),(iV (lo b)),(iV 0)]))),(.row 3 1 (AQ b 1) (A1 b (λi=>(iV (r i))) (iV (-1)))),jgZ]⟩):=by
 exact Aa (ks:=[kn h0,kA (kn h17) (kn h0),kn h18,kA (kn h17) (kn h0),kn h18,kA (kn h17) (kn h0),kn h18,kI (ofNat b),kA (kn h17) (kn h0),kJ b,kn h18,kI (th b),kI (ofNat b),kA (kn h17) (kn h0),kJ b,kJ b,kn h18,kI ((shG n f b)).src,kI (ofNat b),kA (kn h17) (kn h0),kJ b,kn h18,kI (lo b),kI (th b),kI 0,kI ((shG n f b)).src,kI (lo b),kI 0,kI (ofNat b),kA (kn h17) (kn h0),kJ b,kn h18,kI (th b),kI (ofNat b),kA (kn h17) (kn h0),kJ b,kJ b,kn h18,kI ((shG n f b)).src,kI (ofNat b),kA (kn h17) (kn h0),kJ b,kn h18,kI (lo b),kI (th b),kI 0,kI ((shG n f b)).src,kI (lo b),kI 0,kn hp2,kn h19,kn h20,kA (kn h17) (kn h0),kn h18,kn h1,kA (kn h17) (kn h0),kn h18,kA (kn h17) (kn h0),kn h18,kn h2,kA (kn h17) (kn h0),kn h18]) (by kernel_rfl)
theorem Ag4 (h0:ilt (ofNat b) (ofNat n) = true) (h17:ile 0 (ofNat b) = true) (h18:nlt b n = true) (h19:AY b 1 40 = true) (h20:AY b 1 8 = true) (h1:ile tt (th b) = true) (h2:ile kk (lo b) = false) (hp2:p2 (DY (onP 2 p2 (Ey a n f b tt kk th lo x r p b) L)) (Hw a n f b tt kk th lo x r j) = true):Ah (FH (onP 2 p2 (Ey a n f b tt kk th lo x r p b) L)) (Jg a n f) (Jv a n f b tt kk th lo x r j) = some (.nm,⟨(jsV 132 0 (λ_=>.und) [(4,(.ptr 0 0)),(5,(iV 0)),(6,(iV 0)),(9,(.ref 1)),(10,(nV n)),(11,(.ref 2)),(13,(.ref 3)),(15,(.ptr 4 0)),(16,(iV (wr .i64 (Af (ofNat b) 1))))]),[c7Z,(.row 44 6 n (λi=>(eV (shG n f i)))),(.row 3 1 n (λk=>(iV (th k)))),(.row 3 1 n (λk=>(iV (lo k)))),(.cells [(iV a),(.ref 1),(.ref 5),(iV (wr .i64 (Af (th b) 1))),(iV kk),(.ref 6),(.jref 7)]),(.row 40 5 (AQ b 1) (A1 b x (.agg [(iV (th b)),(iV p),(iV ((shG n f b)).src),(iV (lo b)),(iV 0)]))),(.row 3 1 (AQ b 1) (A1 b (λi=>(iV (r i))) (iV (-1)))),jgZ]⟩):=by
 exact Aa (ks:=[kn h0,kA (kn h17) (kn h0),kn h18,kA (kn h17) (kn h0),kn h18,kA (kn h17) (kn h0),kn h18,kI (ofNat b),kA (kn h17) (kn h0),kJ b,kn h18,kI (th b),kI (ofNat b),kA (kn h17) (kn h0),kJ b,kJ b,kn h18,kI ((shG n f b)).src,kI (ofNat b),kA (kn h17) (kn h0),kJ b,kn h18,kI (lo b),kI (th b),kI 0,kI ((shG n f b)).src,kI (lo b),kI 0,kI (ofNat b),kA (kn h17) (kn h0),kJ b,kn h18,kI (th b),kI (ofNat b),kA (kn h17) (kn h0),kJ b,kJ b,kn h18,kI ((shG n f b)).src,kI (ofNat b),kA (kn h17) (kn h0),kJ b,kn h18,kI (lo b),kI (th b),kI 0,kI ((shG n f b)).src,kI (lo b),kI 0,kn hp2,kn h19,kn h20,kA (kn h17) (kn h0),kn h18,kn h1,kA (kn h17) (kn h0),kn h18,kA (kn h17) (kn h0),kn h18,kn h2]) (by kernel_rfl)
theorem Ag5 (h0:ilt (ofNat b) (ofNat n) = true) (h17:ile 0 (ofNat b) = true) (h18:nlt b n = true) (h19:AY b 1 40 = true) (h20:AY b 1 8 = true) (h1:ile tt (th b) = false) (h2:ile kk (lo b) = true) (hp2:p2 (DY (onP 2 p2 (Ey a n f b tt kk th lo x r p b) L)) (Hw a n f b tt kk th lo x r j) = true):Ah (FH (onP 2 p2 (Ey a n f b tt kk th lo x r p b) L)) (Jg a n f) (Jv a n f b tt kk th lo x r j) = some (.nm,⟨(jsV 132 0 (λ_=>.und) [(4,(.ptr 0 0)),(5,(iV 0)),(6,(iV 0)),(9,(.ref 1)),(10,(nV n)),(11,(.ref 2)),(13,(.ref 3)),(15,(.ptr 4 0)),(16,(iV (wr .i64 (Af (ofNat b) 1))))]),[c7Z,(.row 44 6 n (λi=>(eV (shG n f i)))),(.row 3 1 n (λk=>(iV (th k)))),(.row 3 1 n (λk=>(iV (lo k)))),(.cells [(iV a),(.ref 1),(.ref 5),(iV tt),(iV (wr .i64 (Af (lo b) 1))),(.ref 6),(.jref 7)]),(.row 40 5 (AQ b 1) (A1 b x (.agg [(iV (th b)),(iV p),(iV ((shG n f b)).src),(iV (lo b)),(iV 0)]))),(.row 3 1 (AQ b 1) (A1 b (λi=>(iV (r i))) (iV (-1)))),jgZ]⟩):=by
 exact Aa (ks:=[kn h0,kA (kn h17) (kn h0),kn h18,kA (kn h17) (kn h0),kn h18,kA (kn h17) (kn h0),kn h18,kI (ofNat b),kA (kn h17) (kn h0),kJ b,kn h18,kI (th b),kI (ofNat b),kA (kn h17) (kn h0),kJ b,kJ b,kn h18,kI ((shG n f b)).src,kI (ofNat b),kA (kn h17) (kn h0),kJ b,kn h18,kI (lo b),kI (th b),kI 0,kI ((shG n f b)).src,kI (lo b),kI 0,kI (ofNat b),kA (kn h17) (kn h0),kJ b,kn h18,kI (th b),kI (ofNat b),kA (kn h17) (kn h0),kJ b,kJ b,kn h18,kI ((shG n f b)).src,kI (ofNat b),kA (kn h17) (kn h0),kJ b,kn h18,kI (lo b),kI (th b),kI 0,kI ((shG n f b)).src,kI (lo b),kI 0,kn hp2,kn h19,kn h20,kA (kn h17) (kn h0),kn h18,kn h1,kA (kn h17) (kn h0),kn h18,kn h2,kA (kn h17) (kn h0),kn h18]) (by kernel_rfl)
theorem Ag6 (h0:ilt (ofNat b) (ofNat n) = true) (h17:ile 0 (ofNat b) = true) (h18:nlt b n = true) (h19:AY b 1 40 = true) (h20:AY b 1 8 = true) (h1:ile tt (th b) = false) (h2:ile kk (lo b) = false) (hp2:p2 (DY (onP 2 p2 (Ey a n f b tt kk th lo x r p b) L)) (Hw a n f b tt kk th lo x r j) = true):Ah (FH (onP 2 p2 (Ey a n f b tt kk th lo x r p b) L)) (Jg a n f) (Jv a n f b tt kk th lo x r j) = some (.nm,⟨(jsV 132 0 (λ_=>.und) [(4,(.ptr 0 0)),(5,(iV 0)),(6,(iV 0)),(9,(.ref 1)),(10,(nV n)),(11,(.ref 2)),(13,(.ref 3)),(15,(.ptr 4 0)),(16,(iV (wr .i64 (Af (ofNat b) 1))))]),[c7Z,(.row 44 6 n (λi=>(eV (shG n f i)))),(.row 3 1 n (λk=>(iV (th k)))),(.row 3 1 n (λk=>(iV (lo k)))),(.cells [(iV a),(.ref 1),(.ref 5),(iV tt),(iV kk),(.ref 6),(.jref 7)]),(.row 40 5 (AQ b 1) (A1 b x (.agg [(iV (th b)),(iV p),(iV ((shG n f b)).src),(iV (lo b)),(iV 0)]))),(.row 3 1 (AQ b 1) (A1 b (λi=>(iV (r i))) (iV (-1)))),jgZ]⟩):=by
 exact Aa (ks:=[kn h0,kA (kn h17) (kn h0),kn h18,kA (kn h17) (kn h0),kn h18,kA (kn h17) (kn h0),kn h18,kI (ofNat b),kA (kn h17) (kn h0),kJ b,kn h18,kI (th b),kI (ofNat b),kA (kn h17) (kn h0),kJ b,kJ b,kn h18,kI ((shG n f b)).src,kI (ofNat b),kA (kn h17) (kn h0),kJ b,kn h18,kI (lo b),kI (th b),kI 0,kI ((shG n f b)).src,kI (lo b),kI 0,kI (ofNat b),kA (kn h17) (kn h0),kJ b,kn h18,kI (th b),kI (ofNat b),kA (kn h17) (kn h0),kJ b,kJ b,kn h18,kI ((shG n f b)).src,kI (ofNat b),kA (kn h17) (kn h0),kJ b,kn h18,kI (lo b),kI (th b),kI 0,kI ((shG n f b)).src,kI (lo b),kI 0,kn hp2,kn h19,kn h20,kA (kn h17) (kn h0),kn h18,kn h1,kA (kn h17) (kn h0),kn h18,kn h2]) (by kernel_rfl)
end
def L5 (a:Int) (n:Nat) (f:Nat->E6):Lp:=⟨(bmK 132 0 [4,15,19]),8,bmK 132 0 [4,15],8,17⟩
def Ny (a:Int) (n:Nat) (f:Nat->E6) (b kk:Nat) (tt:Int) (th lo:Nat->Int) (x:Nat->Ev5) (r:Nat->Int) (ln:Nat->Nat) (co:Nat->Nat->Int) (j:Nat->V):St:=⟨(jsV 132 0 j [(4,.ptr 0 0),(15,.ptr 4 0),(19,nV b)]),[c7Z,.row 44 6 n (λi=>eV (shG n f i)),.row 3 1 n (λi=>iV (th i)),.row 3 1 n (λi=>iV (lo i)),.cells [iV a,.ref 1,.ref 5,iV tt,nV kk,.ref 6,.jref 7],.row 40 5 n (λi=>evV (x i)),.row 3 1 n (λi=>iV (r i)),.jag (Jag.mk 25 1 b (λ_=>.und) 0 3 1 (λ_=>true) ln (λi q=>iV (co i q)))]⟩
def KK (a:Int) (n:Nat) (f:Nat->E6) (b kk:Nat) (tt:Int) (th lo:Nat->Int) (x:Nat->Ev5) (r:Nat->Int) (ln:Nat->Nat) (co:Nat->Nat->Int):Ex × St:=(.ex 4,⟨(jsV 132 0 (λ_=>.und) [(4,.ptr 0 0),(15,.ptr 4 0)]),[c7Z,.row 44 6 n (λi=>eV (shG n f i)),.row 3 1 n (λi=>iV (th i)),.row 3 1 n (λi=>iV (lo i)),.cells [iV a,.ref 1,.ref 5,iV tt,nV kk,.ref 6,.jref 7],.row 40 5 n (λi=>evV (x i)),.row 3 1 n (λi=>iV (r i)),.jag (Jag.mk 25 1 b (λ_=>.und) 0 3 1 (λ_=>true) ln (λi q=>iV (co i q)))]⟩)
def Uo (b:Nat) (u:Nat->V):List V:=(jsV 132 0 u [(4,.ptr 0 0),(15,.ptr 4 0),(19,nV b)])
noncomputable def KY (L:LT):St->T (Ex × St):=λst=>AC tab ⟨Da,L,Gl⟩ (Au Try.f15 4) 4 st
theorem Akj (L:LT) (a:Int) (n:Nat) (f:Nat->E6) (b kk:Nat) (tt:Int) (th lo:Nat->Int) (x:Nat->Ev5) (r:Nat->Int) (ln:Nat->Nat) (co:Nat->Nat->Int)  (j:Nat->V) (h0:ilt (ofNat b) (ofNat kk) = false):(((AC tab ⟨Da,L,Gl⟩ (Au Try.f15 4) 4 (Ny a n f b kk tt th lo x r ln co j)).bind λrr=>T.leaf (XZ (L5 a n f) rr))).sem = some ((.ex 4),⟨(jsV 132 0 (λ_=>.und) [(4,(.ptr 0 0)),(15,(.ptr 4 0))]),[c7Z,(.row 44 6 n (λi=>(eV (shG n f i)))),(.row 3 1 n (λi=>(iV (th i)))),(.row 3 1 n (λi=>(iV (lo i)))),(.cells [(iV a),(.ref 1),(.ref 5),(iV tt),(nV kk),(.ref 6),(.jref 7)]),(.row 40 5 n (λi=>(.agg [(iV ((x i)).th),(iV ((x i)).pl),(iV ((x i)).dir),(iV ((x i)).loc),(iV ((x i)).val)]))),(.row 3 1 n (λi=>(iV (r i)))),(.jag (Jag.mk 25 1 b (λ_=>.und) 0 3 1 (λ_=>true) ln (λi q=>(iV (co i q)))))]⟩):=by
 exact Aa (ks:=[kn h0]) (by kernel_rfl)
theorem Aki (L:LT) (a:Int) (n:Nat) (f:Nat->E6) (b kk:Nat) (tt:Int) (th lo:Nat->Int) (x:Nat->Ev5) (r:Nat->Int) (ln:Nat->Nat) (co:Nat->Nat->Int) (u:Nat->V) (x':Nat->Ev5) (r':Nat->Int) (ln':Nat->Nat) (co':Nat->Nat->Int) (lv':Nat->Bool) (c':Nat->V) (d:List Blk) (q59:List V->St->Bool) (j:Nat->V) (h0:ilt (ofNat b) (ofNat kk) = true) (hq59:(q59 [(.agg [(iV a),(.ref 1),(.ref 5),(iV tt),(nV kk),(.ref 6),(.jref 7)]),(nV b)] ⟨(jsV 132 0 j [(4,(.ptr 0 0)),(15,(.ptr 4 0)),(19,(nV b)),(122,(nV b)),(123,(.ptr 4 4)),(124,(nV kk)),(125,(bV (ilt (ofNat b) (ofNat kk)))),(128,(.agg [(iV a),(.ref 1),(.ref 5),(iV tt),(nV kk),(.ref 6),(.jref 7)])),(129,(nV b))]),[c7Z,(.row 44 6 n (λi=>(eV (shG n f i)))),(.row 3 1 n (λi=>(iV (th i)))),(.row 3 1 n (λi=>(iV (lo i)))),(.cells [(iV a),(.ref 1),(.ref 5),(iV tt),(nV kk),(.ref 6),(.jref 7)]),(.row 40 5 n (λi=>(.agg [(iV ((x i)).th),(iV ((x i)).pl),(iV ((x i)).dir),(iV ((x i)).loc),(iV ((x i)).val)]))),(.row 3 1 n (λi=>(iV (r i)))),(.jag (Jag.mk 25 1 b (λ_=>.und) 0 3 1 (λ_=>true) ln (λi q=>(iV (co i q)))))]⟩) = true):(((AC tab ⟨(onC 59 q59 ((.agg [(iV a),(.ref 1),(.ref 5),(iV tt),(nV kk),(.ref 6),(.jref 7)]),.all ⟨Uo b u,[c7Z,(.row 44 6 n (λi=>eV (shG n f i))),(.row 3 1 n (λi=>iV (th i))),(.row 3 1 n (λi=>iV (lo i))),(.cells [(iV a),(.ref 1),(.ref 5),(iV tt),(nV kk),(.ref 6),.und]),(.row 40 5 n (λi=>evV (x' i))),(.row 3 1 n (λi=>iV (r' i))),(.jag (Jag.mk 25 1 (AQ b 1) c' 0 3 1 lv' ln' (λi q=>iV (co' i q))))] ++ d⟩) (Da)),L,Gl⟩ (Au Try.f15 4) 4 (Ny a n f b kk tt th lo x r ln co j)).bind λrr=>T.leaf (XZ (L5 a n f) rr))).sem = some (.nm,⟨(jsV 132 0 (λ_=>.und) [(4,(.ptr 0 0)),(15,(.ptr 4 0)),(19,(iV (wr .i64 (Af (ofNat b) 1))))]),[c7Z,(.row 44 6 n (λi=>(eV (shG n f i)))),(.row 3 1 n (λi=>(iV (th i)))),(.row 3 1 n (λi=>(iV (lo i)))),(.cells [(iV a),(.ref 1),(.ref 5),(iV tt),(nV kk),(.ref 6),(.jref 7)]),(.row 40 5 n (λi=>(.agg [(iV ((x' i)).th),(iV ((x' i)).pl),(iV ((x' i)).dir),(iV ((x' i)).loc),(iV ((x' i)).val)]))),(.row 3 1 n (λi=>(iV (r' i)))),(.jag (Jag.mk 25 1 (AQ b 1) c' 0 3 1 lv' ln' (λi q=>(iV (co' i q)))))]⟩):=by
 exact Aa (ks:=[kn h0,kn hq59]) (by kernel_rfl)
def Rw (a:Int) (n:Nat) (f:Nat->E6) (tt:Int) (kk:Nat) (th lo:Nat->Int) (x:Nat->Ev5) (r:Nat->Int):St:=⟨(jsV 132 0 (λ_=>.und) [(4,(.ptr 0 0)),(5,(iV 0)),(6,(iV 0)),(15,(.ptr 4 0)),(19,(iV 0))]),[c7Z,.row 44 6 n (λi=>eV (shG n f i)),.row 3 1 n (λk=>iV (th k)),.row 3 1 n (λk=>iV (lo k)),.cells [iV a,.ref 1,.ref 5,iV tt,nV kk,.ref 6,.jref 7],.row 40 5 n (λi=>.agg [iV ((x i)).th,iV ((x i)).pl,iV ((x i)).dir,iV ((x i)).loc,iV ((x i)).val]),.row 3 1 n (λi=>iV (r i)),jgZ]⟩
theorem AmM (L:LT) (p0:PT) (p4:PT) (a:Int) (n:Nat) (f:Nat->E6) (tt:Int) (kk:Nat) (th lo:Nat->Int) (x:Nat->Ev5) (r:Nat->Int) (x':Nat->Ev5) (r':Nat->Int) (ln':Nat->Nat) (co':Nat->Nat->Int) (h16:Bj n = true) (h0:ieq (CV a n f) 0 = true) (h1:Ad8 n f = true) (h17:CJ n (λi=>(shG n f i)) = true) (h18:Bn [.row 3 1 n (λ_=>iV 0)] = true) (hp0:p0 (FH (onP 0 p0 (T6 a n f n tt (ofNat kk) th lo (λi=>evV (x i)) r) (onP 4 p4 (KK a n f kk kk tt th lo x' r' ln' co') L))) (AaB a n f) = true) (hp4:p4 (KY (onP 0 p0 (T6 a n f n tt (ofNat kk) th lo (λi=>evV (x i)) r) (onP 4 p4 (KK a n f kk kk tt th lo x' r' ln' co') L))) (Rw a n f tt kk th lo x r) = true):(Ar (Ai tab ⟨Da,(onP 0 p0 (T6 a n f n tt (ofNat kk) th lo (λi=>evV (x i)) r) (onP 4 p4 (KK a n f kk kk tt th lo x' r' ln' co') L)),Gl⟩ Try.f15 [iV a,.sl 6 n λi=>eV (f i)] [])).sem = some ((.tup [(.agg [(iV a),(.ref 0),(.ref 1),(iV tt),(nV kk),(.ref 2),(.jref 3)]),(iV 0),(iV 0)]),[(.row 44 6 n (λi=>(eV (shG n f i)))),(.row 40 5 n (λi=>(.agg [(iV ((x' i)).th),(iV ((x' i)).pl),(iV ((x' i)).dir),(iV ((x' i)).loc),(iV ((x' i)).val)]))),(.row 3 1 n (λi=>(iV (r' i)))),(.jag (Jag.mk 25 1 kk (λ_=>.und) 0 3 1 (λ_=>true) ln' (λi q=>(iV (co' i q)))))]):=by
 exact Aa (ks:=[kL n,kn h16,kN (kn h0),kL n,kn h16,kn h1,kL n,kn h16,kn h17,kn h18,kL n,kn h16,kn h17,kn h18,kn hp0,kn hp4]) (by kernel_rfl)
theorem ile_nat (a b:Nat):ile (ofNat a) (ofNat b) = decide (a <= b):=by
 unfold ile
 rw [Bool.eq_iff_iff]
 simp
theorem Aap (a b:Int):ieq a b = ieq b a:=by
 unfold ieq
 rw [Bool.eq_iff_iff]
 simp only [beq_iff_eq]
 exact eq_comm
theorem U3 (L:LT) (a:Int) (n:Nat) (f:Nat->E6) (b:Nat) (tt kk:Int) (th lo:Nat->Int) (x:Nat->V) (r:Nat->Int) (hb:b < n) (hn:n <= 16):∀ (e c:Nat) (j:Nat->V) (q:Nat),b = c+e->e < q ->
  (A4 (DY L) (L6 a n f) q (Nz a n f b tt kk th lo x r (ofNat (Al (λk=>ieq (th k) (th b)) c)) c j)).sem = some (Ey a n f b tt kk th lo x r (ofNat (Al (λk=>ieq (th k) (th b)) b)) b)
 | 0,c,j,q+1,h,_=>by
  have:b = c:=by omega
  subst this
  exact Ab (Akv L a n f b tt kk th lo x r _ b j (A6 (Nat.le_refl _)))
 | e+1,c,j,q+1,h,h2=>by
  have hl:c < b:=by omega
  have hc:=Be (λk=>ieq (th k) (th b)) c
  cases hp:ieq (th c) (th b) with
  | true =>
   rw [Ab (Akt L a n f b tt kk th lo x r _ c j (ofNat_lt hl) (Ap (by omega)) (decide_eq_true (by omega)) (Ap hb) (decide_eq_true hb) hp),Aq,Ao hl (by omega),Ao (n:=n) (by omega) (by omega),<- Bl (p:=λk=>ieq (th k) (th b)) hp]
   exact U3 L a n f b tt kk th lo x r hb hn e (c+1) (λ_=>.und) q (by omega) (by omega)
  | false =>
   rw [Ab (Aku L a n f b tt kk th lo x r _ c j (ofNat_lt hl) (Ap (by omega)) (decide_eq_true (by omega)) (Ap hb) (decide_eq_true hb) hp),Aq,Ao hl (by omega),<- By (p:=λk=>ieq (th k) (th b)) hp]
   exact U3 L a n f b tt kk th lo x r hb hn e (c+1) (λ_=>.und) q (by omega) (by omega)
theorem Vh (a:Int) (n:Nat) (f:Nat->E6) (b:Nat) (tt kk:Int) (th lo:Nat->Int) (x:Nat->V) (r:Nat->Int) (j:Nat->V):Hw a n f b tt kk th lo x r j = Nz a n f b tt kk th lo x r 0 0 (λi=>nth (Hw a n f b tt kk th lo x r j).t i):=by kernel_rfl
theorem Al6 {p:Nat->Bool} {n b:Nat} (hb:b < n) (hn:n <= 16):(ile (ofNat (rN p n b)) (A0 p n b) = true ∧ wr .i64 (Af (A0 p n b) 1) = ofNat (rN p n (b+1))) ∨ (ile (ofNat (rN p n b)) (A0 p n b) = false ∧ rN p n b = rN p n (b+1)):=by
 have h1:=Kh p n b hb
 have h2:=S3 p n b
 rw [FS hb,Ao (n:=n) (by omega) (by omega),ile_nat,rN]
 by_cases h:AZ p n b < rN p n b
 ·rw [if_pos h]
  exact .inr ⟨decide_eq_false (by omega),rfl⟩
 ·rw [if_neg h]
  exact .inl ⟨decide_eq_true (by omega),by rw [show AZ p n b = rN p n b by omega]⟩
theorem Aei (M:LT) (hMM:LLe M M) (a:Int) (n:Nat) (f:Nat->E6) (m2:∀ g st,M 2 g st = A4 g (L6 a n f) (n+1) st) (hn:n <= 16):∀ (e b:Nat) (j:Nat->V) (q:Nat),n = b+e->e < q ->
  (A4 (FH M) (Jg a n f) q (Jv a n f b (ofNat (rN (obF (shG n f)) n b)) (ofNat (rN (mbF (shG n f)) n b)) (thF n (shG n f)) (loF n (shG n f)) (λi=>evV (upX n (shG n f) b i)) (λ_=>-1) j)).sem = some (T6 a n f n (ofNat (rN (obF (shG n f)) n n)) (ofNat (rN (mbF (shG n f)) n n)) (thF n (shG n f)) (loF n (shG n f)) (λi=>evV (upX n (shG n f) n i)) (λ_=>-1))
 | 0,b,j,q+1,h,_=>by
  have:n = b:=by omega
  subst this
  exact Ab (Ak1 M a n f n _ _ _ _ _ _ j (A6 (Nat.le_refl _)))
 | e+1,b,j,q+1,h,h2=>by
  have hl:b < n:=by omega
  have hi:∀ M',(M 2 (DY M') (Hw a n f b (ofNat (rN (obF (shG n f)) n b)) (ofNat (rN (mbF (shG n f)) n b)) (thF n (shG n f)) (loF n (shG n f)) (λi=>evV (upX n (shG n f) b i)) (λ_=>-1) j)).sem = some (Ey a n f b (ofNat (rN (obF (shG n f)) n b)) (ofNat (rN (mbF (shG n f)) n b)) (thF n (shG n f)) (loF n (shG n f)) (λi=>evV (upX n (shG n f) b i)) (λ_=>-1) (ofNat (Al (λk=>ieq (thF n (shG n f) k) (thF n (shG n f) b)) b)) b):=λM'=>by
   rw [m2,Vh]
   exact U3 M' a n f b (ofNat (rN (obF (shG n f)) n b)) (ofNat (rN (mbF (shG n f)) n b)) (thF n (shG n f)) (loF n (shG n f)) (λi=>evV (upX n (shG n f) b i)) (λ_=>-1) hl hn b 0 _ (n+1) (by omega) (by omega)
  have hx:=RN n (shG n f) b
  rw [show evV (evF n (shG n f) (λ_=>false) b) = .agg [iV (thF n (shG n f) b),iV (ofNat (Al (λk=>ieq (thF n (shG n f) k) (thF n (shG n f) b)) b)),iV (shG n f b).src,iV (loF n (shG n f) b),iV 0] by
   rw [Cg hl,show Al (λk=>ieq (thF n (shG n f) k) (thF n (shG n f) b)) b = plF n (shG n f) b from GI λi _=>Aap _ _]; rfl] at hx
  have next:=Aei M hMM a n f m2 hn e (b+1) (λ_=>.und) q (by omega) (by omega)
  rcases Al6 (p:=obF (shG n f)) hl hn with ⟨c1,w1⟩ | ⟨c1,w1⟩ <;> rcases Al6 (p:=mbF (shG n f)) hl hn with ⟨c2,w2⟩ | ⟨c2,w2⟩
  ·have w1:wr .i64 (Af (thF n (shG n f) b) 1) = _:=w1
   have w2:wr .i64 (Af (loF n (shG n f) b) 1) = _:=w2
   have h3:=Ag3 M _ a n f b (ofNat (rN (obF (shG n f)) n b)) (ofNat (rN (mbF (shG n f)) n b)) (thF n (shG n f)) (loF n (shG n f)) (λi=>evV (upX n (shG n f) b i)) (λ_=>-1) (ofNat (Al (λk=>ieq (thF n (shG n f) k) (thF n (shG n f) b)) b)) j (ofNat_lt hl) (AF b) (decide_eq_true hl) (BH (by omega)) (BH (by omega)) c1 c2 (Aj (hi _))
   have h4:Ah (FH M) (Jg a n f) (Jv a n f b (ofNat (rN (obF (shG n f)) n b)) (ofNat (rN (mbF (shG n f)) n b)) (thF n (shG n f)) (loF n (shG n f)) (λi=>evV (upX n (shG n f) b i)) (λ_=>-1) j) = _:=CB (l:=Jg a n f) (D5 (Γ:=⟨Da,M,Gl⟩) (As hMM hMM) (Au Try.f15 0) 0 (Jv a n f b (ofNat (rN (obF (shG n f)) n b)) (ofNat (rN (mbF (shG n f)) n b)) (thF n (shG n f)) (loF n (shG n f)) (λi=>evV (upX n (shG n f) b i)) (λ_=>-1) j)) h3
   rw [Ab h4,Aq,Ao hl (by omega),hx,Eg]
   rw [w1,w2]
   exact next
  ·have w1:wr .i64 (Af (thF n (shG n f) b) 1) = _:=w1
   have h3:=Ag4 M _ a n f b (ofNat (rN (obF (shG n f)) n b)) (ofNat (rN (mbF (shG n f)) n b)) (thF n (shG n f)) (loF n (shG n f)) (λi=>evV (upX n (shG n f) b i)) (λ_=>-1) (ofNat (Al (λk=>ieq (thF n (shG n f) k) (thF n (shG n f) b)) b)) j (ofNat_lt hl) (AF b) (decide_eq_true hl) (BH (by omega)) (BH (by omega)) c1 c2 (Aj (hi _))
   have h4:Ah (FH M) (Jg a n f) (Jv a n f b (ofNat (rN (obF (shG n f)) n b)) (ofNat (rN (mbF (shG n f)) n b)) (thF n (shG n f)) (loF n (shG n f)) (λi=>evV (upX n (shG n f) b i)) (λ_=>-1) j) = _:=CB (l:=Jg a n f) (D5 (Γ:=⟨Da,M,Gl⟩) (As hMM hMM) (Au Try.f15 0) 0 (Jv a n f b (ofNat (rN (obF (shG n f)) n b)) (ofNat (rN (mbF (shG n f)) n b)) (thF n (shG n f)) (loF n (shG n f)) (λi=>evV (upX n (shG n f) b i)) (λ_=>-1) j)) h3
   rw [Ab h4,Aq,Ao hl (by omega),hx,Eg]
   rw [w1,w2]
   exact next
  ·have w2:wr .i64 (Af (loF n (shG n f) b) 1) = _:=w2
   have h3:=Ag5 M _ a n f b (ofNat (rN (obF (shG n f)) n b)) (ofNat (rN (mbF (shG n f)) n b)) (thF n (shG n f)) (loF n (shG n f)) (λi=>evV (upX n (shG n f) b i)) (λ_=>-1) (ofNat (Al (λk=>ieq (thF n (shG n f) k) (thF n (shG n f) b)) b)) j (ofNat_lt hl) (AF b) (decide_eq_true hl) (BH (by omega)) (BH (by omega)) c1 c2 (Aj (hi _))
   have h4:Ah (FH M) (Jg a n f) (Jv a n f b (ofNat (rN (obF (shG n f)) n b)) (ofNat (rN (mbF (shG n f)) n b)) (thF n (shG n f)) (loF n (shG n f)) (λi=>evV (upX n (shG n f) b i)) (λ_=>-1) j) = _:=CB (l:=Jg a n f) (D5 (Γ:=⟨Da,M,Gl⟩) (As hMM hMM) (Au Try.f15 0) 0 (Jv a n f b (ofNat (rN (obF (shG n f)) n b)) (ofNat (rN (mbF (shG n f)) n b)) (thF n (shG n f)) (loF n (shG n f)) (λi=>evV (upX n (shG n f) b i)) (λ_=>-1) j)) h3
   rw [Ab h4,Aq,Ao hl (by omega),hx,Eg]
   rw [w1,w2]
   exact next
  ·have h3:=Ag6 M _ a n f b (ofNat (rN (obF (shG n f)) n b)) (ofNat (rN (mbF (shG n f)) n b)) (thF n (shG n f)) (loF n (shG n f)) (λi=>evV (upX n (shG n f) b i)) (λ_=>-1) (ofNat (Al (λk=>ieq (thF n (shG n f) k) (thF n (shG n f) b)) b)) j (ofNat_lt hl) (AF b) (decide_eq_true hl) (BH (by omega)) (BH (by omega)) c1 c2 (Aj (hi _))
   have h4:Ah (FH M) (Jg a n f) (Jv a n f b (ofNat (rN (obF (shG n f)) n b)) (ofNat (rN (mbF (shG n f)) n b)) (thF n (shG n f)) (loF n (shG n f)) (λi=>evV (upX n (shG n f) b i)) (λ_=>-1) j) = _:=CB (l:=Jg a n f) (D5 (Γ:=⟨Da,M,Gl⟩) (As hMM hMM) (Au Try.f15 0) 0 (Jv a n f b (ofNat (rN (obF (shG n f)) n b)) (ofNat (rN (mbF (shG n f)) n b)) (thF n (shG n f)) (loF n (shG n f)) (λi=>evV (upX n (shG n f) b i)) (λ_=>-1) j)) h3
   rw [Ab h4,Aq,Ao hl (by omega),hx,Eg]
   rw [w1,w2]
   exact next
def lnR (n:Nat) (g:Nat->E6) (b k:Nat):Nat:=if k < b then lnN (mbF g) (wrF g) n k else 0
def coR (n:Nat) (g:Nat->E6) (b k q:Nat):Int:=if k < b ∧ q < lnN (mbF g) (wrF g) n k then ofNat (coN (mbF g) (wrF g) n k q) else 0
theorem Aaa (n:Nat) (g:Nat->E6) (b:Nat):(λi=>sel (AD i b) (wcN (wrF g) n (stN (mbF g) n b) (Cw (mbF g) n (stN (mbF g) n b))) (lnR n g b i)) = lnR n g (b+1):=by
 funext i
 unfold lnR
 by_cases hi:i = b
 ·subst hi
  rw [show AD i i = true from Nat.beq_refl _,if_pos (Nat.lt_succ_self _)]
  rfl
 ·rw [show AD i b = false from nbeq_ne hi]
  by_cases h:i < b
  ·rw [if_pos h,if_pos (by omega)]; rfl
  ·rw [if_neg h,if_neg (by omega)]; rfl
theorem Abf {n:Nat} {g:Nat->E6} {b:Nat} (hb:b < kkN n g):(λi i_1=>BX (λi_2 i_3=>iV (coR n g b i_2 i_3)) b (λi_2=>iV (wvF n g (stN (mbF g) n b) (Cw (mbF g) n (stN (mbF g) n b)) i_2)) i i_1) = λi q=>iV (coR n g (b+1) i q):=by
 funext i q
 unfold BX
 rw [Fa]
 have hlo:loN n g (stN (mbF g) n b) = b:=(Gx hb).2.2.1
 unfold coR wvF
 rw [hlo]
 by_cases hi:i = b
 ·subst hi
  rw [show AD i i = true from Nat.beq_refl _]
  show iV _ = iV _
  by_cases hq:q < wcN (wrF g) n (stN (mbF g) n i) (Cw (mbF g) n (stN (mbF g) n i))
  ·rw [if_pos hq,if_pos ⟨Nat.lt_succ_self _,hq⟩]
  ·rw [if_neg hq,if_neg (λh=>hq h.2)]
 ·rw [show AD i b = false from nbeq_ne hi]
  show iV _ = iV _
  by_cases h:i < b ∧ q < lnN (mbF g) (wrF g) n i
  ·rw [if_pos h,if_pos ⟨by omega,h.2⟩]
  ·rw [if_neg h,if_neg (λh'=>h ⟨by omega,h'.2⟩)]
def hpE (a:Int) (n:Nat) (f:Nat->E6) (th lo:Nat->Int) (tt:Int) (b:Nat):List Blk:=[c7Z,.row 44 6 n (λi=>eV (shG n f i)),.row 3 1 n (λi=>iV (th i)),.row 3 1 n (λi=>iV (lo i)),.cells [iV a,.ref 1,.ref 5,iV tt,iV (ofNat (kkN n (shG n f))),.ref 6,.jref 7],.row 40 5 n (λi=>evV (evF n (shG n f) (dnF n (shG n f) (loN n (shG n f)) b 0) i)),.row 3 1 n (λi=>iV (rfF n (shG n f) (dnF n (shG n f) (loN n (shG n f)) b 0) i)),.jag (Jag.mk 25 1 b (λ_=>.und) 0 3 1 (λ_=>true) (lnR n (shG n f) b) (λi q=>iV (coR n (shG n f) b i q)))]
def Al4 (a:Int) (n:Nat) (f:Nat->E6) (th lo:Nat->Int) (tt:Int) (b:Nat):List Blk:=[c7Z,.row 44 6 n (λi=>eV (shG n f i)),.row 3 1 n (λi=>iV (th i)),.row 3 1 n (λi=>iV (lo i)),.cells [iV a,.ref 1,.ref 5,iV tt,iV (ofNat (kkN n (shG n f))),.ref 6,.und],.row 40 5 n (λi=>evV (evF n (shG n f) (dnF n (shG n f) (loN n (shG n f)) b 0) i)),.row 3 1 n (λi=>iV (rfF n (shG n f) (dnF n (shG n f) (loN n (shG n f)) b 0) i)),.jag (Jag.mk 25 1 b (λ_=>.und) 0 3 1 (λ_=>true) (lnR n (shG n f) b) (λi q=>iV (coR n (shG n f) b i q)))]
def Aiu (a:Int) (n:Nat) (f:Nat->E6) (tt:Int):V:=.agg [iV a,.ref 1,.ref 5,iV tt,iV (ofNat (kkN n (shG n f))),.ref 6,.jref 7]
def Zy (a:Int) (n:Nat) (f:Nat->E6) (tt:Int):List Blk:=[.dead,.cells [iV a,.ref 1,.ref 5,iV tt,iV (ofNat (kkN n (shG n f))),.ref 6,.jref 7],.cells [iV a,.ref 1,.ref 5,iV tt,iV (ofNat (kkN n (shG n f))),.ref 6,.jref 7],.dead,.dead]
theorem Ye (vs:List V) (st:St):Da 59 vs st = Kz tab (cxZ Gl Uc Lk G6) Try.f59 vs st:=by kernel_rfl
theorem UQ (q:Nat):(λi=>sel (AD i q) true true) = λ_=>true:=by
 funext i
 cases AD i q <;> rfl
theorem Aa6 (a:Int) (n k kk:Nat) (g:Nat->E6) (th lo:Nat->Int) (tt:Int) (c0:Nat->V) (x0:Nat->Ev5) (r0:Nat->Int) (ln:Nat->Nat) (co:Nat->Nat->Int) (ts:List V):CU (PU a n k kk g th lo tt c0 x0 r0 ln co ts) [(11,iV 0)] = Xj a n k kk g th lo tt c0 x0 r0 ln co ts 0 0 (Gq n g x0 (ofNat k)) (-1) x0 r0 (λ_=>0) (λi=>nth (PU a n k kk g th lo tt c0 x0 r0 ln co ts).t i):=by kernel_rfl
theorem Ai1 (n:Nat) (g:Nat->E6) (z:Nat):wvF n g z 0 = λ_=>0:=by
 funext q
 unfold wvF
 rw [show wcN (wrF g) n z 0 = 0 from rfl,if_neg (Nat.not_lt_zero _)]
theorem Aiq (a:Int) (n:Nat) (f:Nat->E6) (hn:n <= 16) (b:Nat) (th lo:Nat->Int) (tt:Int) (ts:List V) (hb:b < kkN n (shG n f)):∃ F,EF F ∧
  (Da 59 [Aiu a n f tt,nV b] ⟨ts,hpE a n f th lo tt b⟩).sem = some (Aiu a n f tt,.all ⟨ts.map F,Al4 a n f th lo tt (b+1) ++ Zy a n f tt⟩):=by
 obtain ⟨hz,hst,hlo,_⟩:=Gx hb
 have hlo:loN n (shG n f) (stN (mbF (shG n f)) n b) = b:=hlo
 have hL:=DL Lk G6
 have hrun:=AjQ a n (stN (mbF (shG n f)) n b) (shG n f) th lo tt (λ_=>.und) (evF n (shG n f) (dnF n (shG n f) (loN n (shG n f)) b 0)) (rfF n (shG n f) (dnF n (shG n f) (loN n (shG n f)) b 0)) (lnR n (shG n f) b) (coR n (shG n f) b) hz hst hn (Cw (mbF (shG n f)) n (stN (mbF (shG n f)) n b)) 0 17 (Nat.zero_add _).symm (by have:=(E8 hz hst).2.1; omega)
 rw [hlo] at hrun
 obtain ⟨F,hF,h1⟩:=hrun
 refine ⟨_,(((hF.comp (Ev 11)).comp (Ev 12)).comp (Ev 7)),?_⟩
 have hp:(CE Lk G6 0 (JJ (onP 0 (isP (CE Lk G6) 0 (KH a n b (kkN n (shG n f)) (shG n f) th lo tt (λ_=>.und) (evF n (shG n f) (dnF n (shG n f) (loN n (shG n f)) b 0)) (rfF n (shG n f) (dnF n (shG n f) (loN n (shG n f)) b 0)) (lnR n (shG n f) b) (coR n (shG n f) b) (ts.map F) 0 (wcN (wrF (shG n f)) n (stN (mbF (shG n f)) n b) (Cw (mbF (shG n f)) n (stN (mbF (shG n f)) n b))) 0 0 (evF n (shG n f) (dnF n (shG n f) (loN n (shG n f)) (b+1) 0)) (rfF n (shG n f) (dnF n (shG n f) (loN n (shG n f)) (b+1) 0)) (wvF n (shG n f) (stN (mbF (shG n f)) n b) (Cw (mbF (shG n f)) n (stN (mbF (shG n f)) n b))))) (KH a n b (kkN n (shG n f)) (shG n f) th lo tt (λ_=>.und) (evF n (shG n f) (dnF n (shG n f) (loN n (shG n f)) b 0)) (rfF n (shG n f) (dnF n (shG n f) (loN n (shG n f)) b 0)) (lnR n (shG n f) b) (coR n (shG n f) b) (ts.map F) 0 (wcN (wrF (shG n f)) n (stN (mbF (shG n f)) n b) (Cw (mbF (shG n f)) n (stN (mbF (shG n f)) n b))) 0 0 (evF n (shG n f) (dnF n (shG n f) (loN n (shG n f)) (b+1) 0)) (rfF n (shG n f) (dnF n (shG n f) (loN n (shG n f)) (b+1) 0)) (wvF n (shG n f) (stN (mbF (shG n f)) n b) (Cw (mbF (shG n f)) n (stN (mbF (shG n f)) n b)))) (CE Lk G6))) (PU a n b (kkN n (shG n f)) (shG n f) th lo tt (λ_=>.und) (evF n (shG n f) (dnF n (shG n f) (loN n (shG n f)) b 0)) (rfF n (shG n f) (dnF n (shG n f) (loN n (shG n f)) b 0)) (lnR n (shG n f) b) (coR n (shG n f) b) ts)).sem = some (KH a n b (kkN n (shG n f)) (shG n f) th lo tt (λ_=>.und) (evF n (shG n f) (dnF n (shG n f) (loN n (shG n f)) b 0)) (rfF n (shG n f) (dnF n (shG n f) (loN n (shG n f)) b 0)) (lnR n (shG n f) b) (coR n (shG n f) b) (ts.map F) 0 (wcN (wrF (shG n f)) n (stN (mbF (shG n f)) n b) (Cw (mbF (shG n f)) n (stN (mbF (shG n f)) n b))) 0 0 (evF n (shG n f) (dnF n (shG n f) (loN n (shG n f)) (b+1) 0)) (rfF n (shG n f) (dnF n (shG n f) (loN n (shG n f)) (b+1) 0)) (wvF n (shG n f) (stN (mbF (shG n f)) n b) (Cw (mbF (shG n f)) n (stN (mbF (shG n f)) n b)))):=by
  show (A4 _ _ 17 (CU (PU a n b (kkN n (shG n f)) (shG n f) th lo tt (λ_=>.und) (evF n (shG n f) (dnF n (shG n f) (loN n (shG n f)) b 0)) (rfF n (shG n f) (dnF n (shG n f) (loN n (shG n f)) b 0)) (lnR n (shG n f) b) (coR n (shG n f) b) ts) [(11,iV 0)])).sem = _
  rw [Aa6,XO hb]
  have h2:=h1 (onP 0 (isP (CE Lk G6) 0 (KH a n b (kkN n (shG n f)) (shG n f) th lo tt (λ_=>.und) (evF n (shG n f) (dnF n (shG n f) (loN n (shG n f)) b 0)) (rfF n (shG n f) (dnF n (shG n f) (loN n (shG n f)) b 0)) (lnR n (shG n f) b) (coR n (shG n f) b) (ts.map F) 0 (wcN (wrF (shG n f)) n (stN (mbF (shG n f)) n b) (Cw (mbF (shG n f)) n (stN (mbF (shG n f)) n b))) 0 0 (evF n (shG n f) (dnF n (shG n f) (loN n (shG n f)) (b+1) 0)) (rfF n (shG n f) (dnF n (shG n f) (loN n (shG n f)) (b+1) 0)) (wvF n (shG n f) (stN (mbF (shG n f)) n b) (Cw (mbF (shG n f)) n (stN (mbF (shG n f)) n b))))) (KH a n b (kkN n (shG n f)) (shG n f) th lo tt (λ_=>.und) (evF n (shG n f) (dnF n (shG n f) (loN n (shG n f)) b 0)) (rfF n (shG n f) (dnF n (shG n f) (loN n (shG n f)) b 0)) (lnR n (shG n f) b) (coR n (shG n f) b) (ts.map F) 0 (wcN (wrF (shG n f)) n (stN (mbF (shG n f)) n b) (Cw (mbF (shG n f)) n (stN (mbF (shG n f)) n b))) 0 0 (evF n (shG n f) (dnF n (shG n f) (loN n (shG n f)) (b+1) 0)) (rfF n (shG n f) (dnF n (shG n f) (loN n (shG n f)) (b+1) 0)) (wvF n (shG n f) (stN (mbF (shG n f)) n b) (Cw (mbF (shG n f)) n (stN (mbF (shG n f)) n b)))) (CE Lk G6)) ts ts (λi=>nth (PU a n b (kkN n (shG n f)) (shG n f) th lo tt (λ_=>.und) (evF n (shG n f) (dnF n (shG n f) (loN n (shG n f)) b 0)) (rfF n (shG n f) (dnF n (shG n f) (loN n (shG n f)) b 0)) (lnR n (shG n f) b) (coR n (shG n f) b) ts).t i)
  rw [Ai1] at h2
  exact h2
 have hkn:kkN n (shG n f) <= n:=Be _ _
 have hw:=AlX (CE Lk G6) (isP (CE Lk G6) 0 (KH a n b (kkN n (shG n f)) (shG n f) th lo tt (λ_=>.und) (evF n (shG n f) (dnF n (shG n f) (loN n (shG n f)) b 0)) (rfF n (shG n f) (dnF n (shG n f) (loN n (shG n f)) b 0)) (lnR n (shG n f) b) (coR n (shG n f) b) (ts.map F) 0 (wcN (wrF (shG n f)) n (stN (mbF (shG n f)) n b) (Cw (mbF (shG n f)) n (stN (mbF (shG n f)) n b))) 0 0 (evF n (shG n f) (dnF n (shG n f) (loN n (shG n f)) (b+1) 0)) (rfF n (shG n f) (dnF n (shG n f) (loN n (shG n f)) (b+1) 0)) (wvF n (shG n f) (stN (mbF (shG n f)) n b) (Cw (mbF (shG n f)) n (stN (mbF (shG n f)) n b))))) a n b (kkN n (shG n f)) (shG n f) th lo tt (λ_=>.und) (evF n (shG n f) (dnF n (shG n f) (loN n (shG n f)) b 0)) (rfF n (shG n f) (dnF n (shG n f) (loN n (shG n f)) b 0)) (lnR n (shG n f) b) (coR n (shG n f) b) ts (ts.map F) 0 (wcN (wrF (shG n f)) n (stN (mbF (shG n f)) n b) (Cw (mbF (shG n f)) n (stN (mbF (shG n f)) n b))) 0 0 (evF n (shG n f) (dnF n (shG n f) (loN n (shG n f)) (b+1) 0)) (rfF n (shG n f) (dnF n (shG n f) (loN n (shG n f)) (b+1) 0)) (wvF n (shG n f) (stN (mbF (shG n f)) n b) (Cw (mbF (shG n f)) n (stN (mbF (shG n f)) n b)))
  (by simp [AX]) (A3.2 λi _=>A3.2 λ_ _=>rfl) (decide_eq_true (by omega)) (BH (by omega)) (Aj hp)
 have e:=LI (τ:=tab) (G:=Gl) (fn:=Try.f59) (CLe.refl (Am Uc)) (As (k:=0) hL hL) _ hw
 rw [Eg,UQ,Aaa,Abf hb,Cn,Cn,Cn,List.map_map,List.map_map,List.map_map] at e
 rw [Ye]
 exact Te (st:=⟨ts,hpE a n f th lo tt b⟩) (Γ:=cxZ Gl Uc Lk G6) e rfl
def slV (w4 w15 w19:V) (u:Nat->V):List V:=(jsV 132 0 u [(4,w4),(15,w15),(19,w19)])
def RO (a:Int) (n:Nat) (f:Nat->E6) (tt:Int) (b kk:Nat) (j:Nat->V):List V:=(jsV 132 0 j [(4,(.ptr 0 0)),(15,(.ptr 4 0)),(19,(nV b)),(122,(nV b)),(123,(.ptr 4 4)),(124,(nV kk)),(125,(bV (ilt (ofNat b) (ofNat kk)))),(128,(.agg [iV a,.ref 1,.ref 5,iV tt,nV kk,.ref 6,.jref 7])),(129,(nV b))])
theorem Ab6 (a:Int) (n:Nat) (f:Nat->E6) (tt:Int) (b kk:Nat) (j:Nat->V):(jsV 132 0 j [(4,(.ptr 0 0)),(15,(.ptr 4 0)),(19,(nV b)),(122,(nV b)),(123,(.ptr 4 4)),(124,(nV kk)),(125,(bV (ilt (ofNat b) (ofNat kk)))),(128,(.agg [(iV a),(.ref 1),(.ref 5),(iV tt),(nV kk),(.ref 6),(.jref 7)])),(129,(nV b))]) = RO a n f tt b kk j:=rfl
theorem Y1 (a:Int) (n:Nat) (f:Nat->E6) (tt:Int) (b kk:Nat) (j:Nat->V) (F:V->V):(RO a n f tt b kk j).map F = slV (F (.ptr 0 0)) (F (.ptr 4 0)) (F (nV b)) (λi=>F (nth (RO a n f tt b kk j) i)):=by kernel_rfl
theorem Zp (L:LT) (a:Int) (n:Nat) (f:Nat->E6) (hn:n <= 16) (th lo:Nat->Int) (tt:Int):∀ (e b:Nat) (j:Nat->V) (q:Nat),kkN n (shG n f) = b+e->e < q ->
  (A4 (KY L) (L5 a n f) q (Ny a n f b (kkN n (shG n f)) tt th lo (evF n (shG n f) (dnF n (shG n f) (loN n (shG n f)) b 0)) (rfF n (shG n f) (dnF n (shG n f) (loN n (shG n f)) b 0)) (lnR n (shG n f) b) (coR n (shG n f) b) j)).sem = some (KK a n f (kkN n (shG n f)) (kkN n (shG n f)) tt th lo (evF n (shG n f) (dnF n (shG n f) (loN n (shG n f)) (kkN n (shG n f)) 0)) (rfF n (shG n f) (dnF n (shG n f) (loN n (shG n f)) (kkN n (shG n f)) 0)) (lnR n (shG n f) (kkN n (shG n f))) (coR n (shG n f) (kkN n (shG n f))))
 | 0,b,j,q+1,h,_=>by
  have h:kkN n (shG n f) = b:=h
  rw [h]
  rw [show KY L = AC tab ⟨Da,L,Gl⟩ (Au Try.f15 4) 4 from rfl]
  exact Ab (Akj L a n f b b tt th lo (evF n (shG n f) (dnF n (shG n f) (loN n (shG n f)) b 0)) (rfF n (shG n f) (dnF n (shG n f) (loN n (shG n f)) b 0)) (lnR n (shG n f) b) (coR n (shG n f) b) j (A6 (Nat.le_refl _)))
 | e+1,b,j,q+1,h,h2=>by
  have hl:b < kkN n (shG n f):=by omega
  have hkn:kkN n (shG n f) <= n:=Be _ _
  have next:=λj=>Zp L a n f hn th lo tt e (b+1) j q (by omega) (by omega)
  obtain ⟨F,hF,hc⟩:=Aiq a n f hn b th lo tt (RO a n f tt b (kkN n (shG n f)) j) hl
  have hts:(RO a n f tt b (kkN n (shG n f)) j).map F = Uo b (λi=>F (nth (RO a n f tt b (kkN n (shG n f)) j) i)):=by
   rw [Y1,hF.2 0 0 (by omega),hF.2 4 0 (by omega)]
   unfold nV iV
   rw [hF.1]
   rfl
  rw [hts] at hc
  have hr:=λq59=>Aki AcG a n f b (kkN n (shG n f)) tt th lo (evF n (shG n f) (dnF n (shG n f) (loN n (shG n f)) b 0)) (rfF n (shG n f) (dnF n (shG n f) (loN n (shG n f)) b 0)) (lnR n (shG n f) b) (coR n (shG n f) b) (λi=>F (nth (RO a n f tt b (kkN n (shG n f)) j) i)) (evF n (shG n f) (dnF n (shG n f) (loN n (shG n f)) (b+1) 0)) (rfF n (shG n f) (dnF n (shG n f) (loN n (shG n f)) (b+1) 0)) (lnR n (shG n f) (b+1)) (coR n (shG n f) (b+1)) (λ_=>true) (λ_=>.und) (Zy a n f tt) q59 j (ofNat_lt hl)
  rw [Ab6 a n f] at hr
  have hr:=hr (isC Da 59 (Aiu a n f tt,.all ⟨Uo b (λi=>F (nth (RO a n f tt b (kkN n (shG n f)) j) i)),Al4 a n f th lo tt (b+1) ++ Zy a n f tt⟩)) (Tc hc)
  have hr':=CB (f':=KY L) (l:=L5 a n f) (LJ (τ:=tab) (G:=Gl) (ZB (CLe.refl Da)) (Wq L) (Au Try.f15 4) 4 (Ny a n f b (kkN n (shG n f)) tt th lo (evF n (shG n f) (dnF n (shG n f) (loN n (shG n f)) b 0)) (rfF n (shG n f) (dnF n (shG n f) (loN n (shG n f)) b 0)) (lnR n (shG n f) b) (coR n (shG n f) b) j)) hr
  rw [Ab hr',Aq,Ao hl (by omega)]
  exact next (λ_=>.und)
theorem LD {L N:LT} (hL:LLe L L) (hN:LLe N N) (k:Nat) (r:Ex × St):LLe (onP k (isP L k r) r N) (onP k (isP L k r) r N):=λid f f' st hf r' hr=>by
 unfold onP at hr ⊢
 cases hk:Nat.beq id k with
 | true =>
  rw [hk] at hr
  obtain ⟨h1,h2⟩:=Ad hr
  unfold isP at h1
  have h1:=@of_decide_eq_true _ (Classical.propDecidable _) h1
  have h3:isP L k r f' st = true:=Aj (hL k f f' st hf _ h1)
  show sel (isP L k r f' st) _ _ = _
  rw [h3]
  exact h2
 | false =>
  rw [hk] at hr
  exact hN id f f' st hf _ hr
def Aiy:List (Nat × List (Nat × V)):=[(0,[(5,evV ⟨0,0,0,0,0⟩),(6,iV (-1))]),(4,[(7,iV 0)])]
def Aet (a:Int) (n:Nat) (f:Nat->E6):List (Nat × Lp):=[(0,Jg a n f),(2,L6 a n f),(4,L5 a n f)]
noncomputable def XX (a:Int) (n:Nat) (f:Nat->E6):Cx:=⟨Da,CE Aiy (Aet a n f),Gl⟩
theorem Aid (a:Int) (n:Nat) (f:Nat->E6):CU (AaB a n f) [(5,evV ⟨0,0,0,0,0⟩),(6,iV (-1))] = Jv a n f 0 0 0 (thF n (shG n f)) (loF n (shG n f)) (λ_=>evV ⟨0,0,0,0,0⟩) (λ_=>-1) (λi=>nth (AaB a n f).t i):=by kernel_rfl
theorem Aaw (a:Int) (n:Nat) (f:Nat->E6) (tt:Int) (kk:Nat) (th lo:Nat->Int) (x:Nat->Ev5) (r:Nat->Int):CU (Rw a n f tt kk th lo x r) [(7,iV 0)] = Ny a n f 0 kk tt th lo x r (λ_=>0) (λ_ _=>0) (λi=>nth (Rw a n f tt kk th lo x r).t i):=by kernel_rfl
theorem Alr (n:Nat) (g:Nat->E6):lnR n g 0 = λ_=>0:=by funext i; simp [lnR]
theorem AlO (n:Nat) (g:Nat->E6):coR n g 0 = λ_ _=>0:=by funext i q; simp [coR]
theorem AeC (n:Nat) (g:Nat->E6):dnF n g (loN n g) 0 0 = λ_=>false:=by
 funext j
 unfold dnF
 rw [AaR]
 simp
theorem Yx (n:Nat) (g:Nat->E6):upX n g n = evF n g (dnF n g (loN n g) 0 0):=by
 rw [AeC,VG,AaS]
def AkU (n:Nat) (g:Nat->E6):List Blk:=[.row 44 6 n (λi=>eV (g i)),.row 40 5 n (λi=>evV (evF n g (dnF n g (loN n g) (kkN n g) 0) i)),.row 3 1 n (λi=>iV (rfF n g (dnF n g (loN n g) (kkN n g) 0) i)),
 .jag ⟨25,1,kkN n g,λ_=>.und,0,3,1,λ_=>true,lnR n g (kkN n g),λk i=>iV (coR n g (kkN n g) k i)⟩]
theorem Acu {n:Nat} {g:Nat->E6} (hk:0 < kkN n g):A8 (AkU n g) (Ur n g):=by
 have hd:∀ i,i < n->dnF n g (loN n g) (kkN n g) 0 i = true:=λi hi=>by
  unfold dnF
  rw [decide_eq_true hi,T7]
  ·rfl
  ·exact SR hi hk
 refine .cons (λ_ _=>rfl) (.cons (λi hi=>?_) (.cons (λi hi=>?_) (.consB (.jag (λ_ _=>.inr rfl) (λ_ _=>rfl) (λk hk'=>?_) (λk hk' q hq=>?_)) (.refl []))))
 ·rw [Cg hi,Cg hi,hd i hi]
 ·unfold rfF
  rw [hd i hi]
 ·have hk':k < kkN n g:=hk'
  show lnN _ _ n k = lnR n g (kkN n g) k
  unfold lnR
  rw [if_pos hk']
 ·have hk':k < kkN n g:=hk'
  have hq:q < lnR n g (kkN n g) k:=hq
  unfold lnR at hq
  rw [if_pos hk'] at hq
  show iV _ = iV _
  unfold coR
  rw [if_pos ⟨hk',hq⟩]
theorem AfM {a:Int} {n:Nat} {f:Nat->E6} (h8:Bj n = true) (hc:ieq (CV a n f) 0 = true) :
  (Ar (Ai tab (XX a n f) Try.f15 [iV a,Az n f] [])).sem = some (.tup [Uq a n (shG n f),iV 0,iV 0],AkU n (shG n f)):=by
 have hy:=Ek hc
 have hlo:=hy.lo
 have hhi:=hy.hi
 have hL:=DL Aiy (Aet a n f)
 have hg:=Gy hy
 have hko:rN (obF (shG n f)) n n = ttN n (shG n f):=QF hg.outer
 have hkm:rN (mbF (shG n f)) n n = kkN n (shG n f):=QF hg.moves
 have hkl:kkN n (shG n f) <= n:=Be _ _
 unfold XX
 have hQ:=LD hL (LD hL hL 4 (KK a n f (kkN n (shG n f)) (kkN n (shG n f)) (ofNat (ttN n (shG n f))) (thF n (shG n f)) (loF n (shG n f)) (evF n (shG n f) (dnF n (shG n f) (loN n (shG n f)) (kkN n (shG n f)) 0)) (rfF n (shG n f) (dnF n (shG n f) (loN n (shG n f)) (kkN n (shG n f)) 0)) (lnR n (shG n f) (kkN n (shG n f))) (coR n (shG n f) (kkN n (shG n f))))) 0 (T6 a n f n (ofNat (ttN n (shG n f))) (ofNat (kkN n (shG n f))) (thF n (shG n f)) (loF n (shG n f)) (λi=>evV (upX n (shG n f) n i)) (λ_=>-1))
 refine A2 (As (As hL hL) hL) _ (AmM _ _ _ a n f (ofNat (ttN n (shG n f))) (kkN n (shG n f)) (thF n (shG n f)) (loF n (shG n f)) (upX n (shG n f) n) (λ_=>-1)
  (evF n (shG n f) (dnF n (shG n f) (loN n (shG n f)) (kkN n (shG n f)) 0)) (rfF n (shG n f) (dnF n (shG n f) (loN n (shG n f)) (kkN n (shG n f)) 0)) (lnR n (shG n f) (kkN n (shG n f))) (coR n (shG n f) (kkN n (shG n f))) h8 hc (T9.2 ⟨a,hy⟩) hg.may E5 (Aj ?_) (Aj ?_))
 ·show (A4 _ (Jg a n f) (n+1) (CU _ [(5,evV ⟨0,0,0,0,0⟩),(6,iV (-1))])).sem = _
  rw [Aid]
  have h:=λM hM m2 j=>Aei M hM a n f m2 hhi n 0 j (n+1) (by omega) (by omega)
  rw [AdS,hko,hkm] at h
  exact h _ hQ (λg st=>rfl) _
 ·show (A4 _ (L5 a n f) 17 (CU _ [(7,iV 0)])).sem = _
  rw [Aaw]
  have h:=λL j=>Zp L a n f hhi (thF n (shG n f)) (loF n (shG n f)) (ofNat (ttN n (shG n f))) (kkN n (shG n f)) 0 j 17 (by omega) (by omega)
  rw [<- Yx,Alr,AlO,show rfF n (shG n f) (dnF n (shG n f) (loN n (shG n f)) 0 0) = λ_=>-1 by rw [AeC]; rfl] at h
  exact h _ _
theorem p15:A7 Try.prog Gl 15 ofT:=by
 refine Av AL AN Try.func15 (by kernel_rfl) (by kernel_rfl) λvs v h' h=>?_
 unfold ofT at h
 split at h
 ·rename_i a u
  obtain ⟨n,f,ha,h1⟩:=Ci h
  obtain ⟨h8,hq⟩:=Ad h1
  have hA:Bp [iV a,u] [iV a,Az n f]:=λS w cs hv=>by
   obtain ⟨c,l,rfl,q1,d,l',rfl,q2,q3⟩:=hv
   exact ⟨c,_,rfl,q1,d,l',rfl,ha S w d q2,q3⟩
  have hx:Bk Try.prog (XX a n f).base ∧ BM (XX a n f):=⟨Yd,SQ rfl⟩
  cases hc:ieq (CV a n f) 0 with
  | true =>
   rw [hc] at hq
   have:=Ac hq
   simp only [Prod.mk.injEq] at this
   obtain ⟨rfl,rfl⟩:=this
   have hg:=Gy (Ek hc)
   have hm:=hg.moves
   exact ⟨_,XX a n f,_,hA,rfl,hx.1,hx.2,AfM h8 hc,Acu (by show 0 < Al (λk=>Aw (shG n f k)) n; omega)⟩
  | false =>
   rw [hc] at hq
   have:=Ac hq
   simp only [Prod.mk.injEq] at this
   obtain ⟨rfl,rfl⟩:=this
   exact ⟨_,XX a n f,_,hA,rfl,hx.1,hx.2,AmN _ a n f h8 hc,A8.refl _⟩
 ·cases h
end Go.Proofs.Ytjhnfomefcngfaa.Sh
