/-
  Layer 7: the document's shape of a cycle. No conditions.
-/
import Derived.Test.YtjhnfomefcngfaaShE
namespace Go.Proofs.Ytjhnfomefcngfaa.Sh
open Go.Sy Ed
open Int (ofNat)
set_option maxHeartbeats 1000000
set_option maxRecDepth 4000
def p57T:List V->T (V × List Blk):=apL1 fun n f=>.br (fitN n) (.br (mayN n f) (.leaf (.tup [.ref 0,iV 0],[.row 3 1 n fun k=>iV (partF (fun k=>outB (f k)) n k)])) .fail) .fail
def p58T:List V->T (V × List Blk):=apL1 fun n f=>.br (fitN n) (.br (mayN n f) (.leaf (.tup [.ref 0,iV 0],[.row 3 1 n fun k=>iV (partF (fun k=>movB (f k)) n k)])) .fail) .fail
theorem p57:PureC Try.prog Gl 57 p57T:=PureC.congr Ed.p53 fun vs r h=>by
  obtain ⟨v,rfl⟩:∃ v,vs = [v]:=by
    unfold p57T apL1 at h
    split at h
    · exact ⟨_,rfl⟩
    · cases h
  unfold p57T apL1 at h
  unfold places2T apL1
  dsimp only at h ⊢
  unfold apL at h ⊢
  split at h
  · rename_i n g hg
    obtain ⟨h1,h⟩:=sem_br_fail h
    dsimp only at h
    obtain ⟨h2,h⟩:=sem_br_fail h
    obtain ⟨h3,h⟩:=sem_br_fail h
    rw [h1]
    dsimp only
    rw [h2,h3]
    exact h
  · cases h
theorem p58:PureC Try.prog Gl 58 p58T:=PureC.congr Ed.p54 fun vs r h=>by
  obtain ⟨v,rfl⟩:∃ v,vs = [v]:=by
    unfold p58T apL1 at h
    split at h
    · exact ⟨_,rfl⟩
    · cases h
  unfold p58T apL1 at h
  unfold places2T apL1
  dsimp only at h ⊢
  unfold apL at h ⊢
  split at h
  · rename_i n g hg
    obtain ⟨h1,h⟩:=sem_br_fail h
    dsimp only at h
    obtain ⟨h2,h⟩:=sem_br_fail h
    obtain ⟨h3,h⟩:=sem_br_fail h
    rw [h1]
    dsimp only
    rw [h2,h3]
    exact h
  · cases h
noncomputable def tb15:List (Nat × (List V->T (V × List Blk))):=[(19,chkT),(56,cturnT),(57,p57T),(58,p58T)]
theorem tb15_ok:AllPure Try.prog Gl tb15:=.cons p49 <| .cons p56 <| .cons p57 <| .cons p58 .nil
def lps59:List (Nat × Lp):=[(0,⟨(bmK 79 0 [1,2,4,5,6,7,8,9]),12,(bmK 79 0 [2,4,5]),12,17⟩)]
def zs59:List (Nat × List (Nat × V)):=[(0,[(11,iV 0)])]
noncomputable def call15:FuncId->List V->St->T (V × Res):=callI [(59,inlF tab (cxZ Gl tb59 zs59 lps59) Try.f59)] (callT tb15)
theorem call15_ok:CallOK Try.prog ⟨call15,Gl⟩:=callI_ok mixed (.cons rfl tabOK (cxZ_ok tb59_ok zs59 lps59).1 (cxZ_ok tb59_ok zs59 lps59).2 Try.func59 (by kernel_rfl) (by kernel_rfl) .nil) (callT_ok rfl tb15_ok)
theorem w15e (L:LT) (a:Int) (n:Nat) (f:Nat->E6) (h0:fitN n = true) (h1:ieq (chkE a n f) 0 = false):(finF (evalF tab ⟨call15,L,Gl⟩ Try.f15 [iV a,.sl 6 n fun i=>eV (f i)] [])).sem = some ((.tup [(.agg [(iV 0),(.ref 0),(.ref 1),(iV 0),(iV 0),(.ref 2),(.jref 3)]),(iV (chkE a n f)),(iV (chkI a n f))]),[(.row 44 6 0 (fun _=>.und)),(.row 40 5 0 (fun _=>.und)),(.row 3 1 0 (fun _=>.und)),(.jag (Jag.mk 25 1 0 (fun _=>.und) 0 3 1 (fun _=>true) (fun _=>0) (fun _ _=>.und)))]):=by
  exact sem_of_path (ds:=[true,true,true]) (cs:=[(allN n (fun _=>true)),(fitN n),(bnot (ieq (chkE a n f) 0))]) (by kernel_rfl) (by simp only [h0,h1,allN_true] <;> rfl)
def lp15 (a:Int) (n:Nat) (f:Nat->E6):Lp:=⟨(bmK 132 0 [4,5,6,9,10,11,13,15,16]),8,(bmK 132 0 [4,5,6,15]),8,n+1⟩
def st15 (a:Int) (n:Nat) (f:Nat->E6) (b:Nat) (tt kk:Int) (th lo:Nat->Int) (x:Nat->V) (r:Nat->Int) (j:Nat->V):St:=⟨(jsV 132 0 j [(4,.ptr 0 0),(5,iV 0),(6,iV 0),(9,.ref 1),(10,nV n),(11,.ref 2),(13,.ref 3),(15,.ptr 4 0),(16,nV b)]),[(.cells [(iV 0),.nilS,.nilS,(iV 0),(iV 0),.nilS,.nilS]),(.row 44 6 n (fun i=>(eV (shG n f i)))),(.row 3 1 n (fun k=>(iV (th k)))),(.row 3 1 n (fun k=>(iV (lo k)))),(.cells [(iV a),(.ref 1),(.ref 5),(iV tt),(iV kk),(.ref 6),(.jref 7)]),(.row 40 5 b x),(.row 3 1 b (fun i=>iV (r i))),(.jag (Jag.mk 25 1 0 (fun _=>.und) 0 3 1 (fun _=>true) (fun _=>0) (fun _ _=>.und)))]⟩
def en15e (a:Int) (n:Nat) (f:Nat->E6) (b:Nat) (tt kk:Int) (th lo:Nat->Int) (x:Nat->V) (r:Nat->Int):Ex × St:=(.ex 0,⟨(jsV 132 0 (fun _=>.und) [(4,.ptr 0 0),(5,iV 0),(6,iV 0),(15,.ptr 4 0)]),[(.cells [(iV 0),.nilS,.nilS,(iV 0),(iV 0),.nilS,.nilS]),(.row 44 6 n (fun i=>(eV (shG n f i)))),(.row 3 1 n (fun k=>(iV (th k)))),(.row 3 1 n (fun k=>(iV (lo k)))),(.cells [(iV a),(.ref 1),(.ref 5),(iV tt),(iV kk),(.ref 6),(.jref 7)]),(.row 40 5 b x),(.row 3 1 b (fun i=>iV (r i))),(.jag (Jag.mk 25 1 0 (fun _=>.und) 0 3 1 (fun _=>true) (fun _=>0) (fun _ _=>.und)))]⟩)
noncomputable def body15 (L:LT):St->T (Ex × St):=fun st=>evalC tab ⟨call15,L,Gl⟩ (loopBody Try.f15 0) 0 st
theorem rf15e (L:LT) (a:Int) (n:Nat) (f:Nat->E6) (b:Nat) (tt kk:Int) (th lo:Nat->Int) (x:Nat->V) (r:Nat->Int)  (j:Nat->V) (h0:ilt (ofNat b) (ofNat n) = false):roundT (body15 L) (lp15 a n f) (st15 a n f b tt kk th lo x r j) = some ((.ex 0),⟨(jsV 132 0 (fun _=>.und) [(4,(.ptr 0 0)),(5,(iV 0)),(6,(iV 0)),(15,(.ptr 4 0))]),[(.cells [(iV 0),.nilS,.nilS,(iV 0),(iV 0),.nilS,.nilS]),(.row 44 6 n (fun i=>(eV (shG n f i)))),(.row 3 1 n (fun k=>(iV (th k)))),(.row 3 1 n (fun k=>(iV (lo k)))),(.cells [(iV a),(.ref 1),(.ref 5),(iV tt),(iV kk),(.ref 6),(.jref 7)]),(.row 40 5 b x),(.row 3 1 b (fun i=>(iV (r i)))),(.jag (Jag.mk 25 1 0 (fun _=>.und) 0 3 1 (fun _=>true) (fun _=>0) (fun _ _=>.und)))]⟩):=by
  exact sem_of_path (ds:=[false]) (cs:=[(ilt (ofNat b) (ofNat n))]) (by kernel_rfl) (by simp only [h0] <;> rfl)
def ent15 (a:Int) (n:Nat) (f:Nat->E6) :St:=⟨(jsV 132 0 (fun _=>undefV) [(0,(iV a)),(1,(.sl 6 n (fun i=>(eV (f i))))),(4,(.ptr 0 0)),(5,(iV 0)),(6,(iV 0)),(7,(iV (chkE a n f))),(8,(iV (chkI a n f))),(9,(.ref 1)),(10,(nV n)),(11,(.ref 2)),(12,(iV 0)),(13,(.ref 3)),(14,(iV 0)),(15,(.ptr 4 0)),(16,(iV 0)),(20,(.tup [(iV (chkE a n f)),(iV (chkI a n f))])),(21,(iV a)),(22,(.sl 6 n (fun i=>(eV (f i))))),(23,(.tup [(iV (chkE a n f)),(iV (chkI a n f))])),(24,(iV (chkE a n f))),(25,(iV (chkI a n f))),(26,(iV (chkE a n f))),(27,(bV (bnot (ieq (chkE a n f) 0)))),(31,(.sl 6 n (fun i=>(eV (f i))))),(32,(.ref 1)),(33,(.ref 1)),(34,(nV n)),(35,(.tup [(.ref 2),(iV 0)])),(36,(.ref 1)),(37,(.tup [(.ref 2),(iV 0)])),(38,(.ref 2)),(39,(iV 0)),(40,(.tup [(.ref 3),(iV 0)])),(41,(.ref 1)),(42,(.tup [(.ref 3),(iV 0)])),(43,(.ref 3)),(44,(iV 0)),(45,(iV a)),(46,(.ref 1)),(47,(.agg [(iV a),(.ref 1),.nilS,(iV 0),(iV 0),.nilS,.nilS]))]),[(.cells [(iV 0),.nilS,.nilS,(iV 0),(iV 0),.nilS,.nilS]),(.row 44 6 n (fun i=>(eV (shG n f i)))),(.row 3 1 n (fun k=>(iV (partF (fun k=>(outB (shG n f k))) n k)))),(.row 3 1 n (fun k=>(iV (partF (fun k=>(movB (shG n f k))) n k)))),(.cells [(iV a),(.ref 1),(.ref 5),(iV 0),(iV 0),(.ref 6),(.jref 7)]),(.row 40 5 0 (fun _=>.und)),(.row 3 1 0 (fun _=>.und)),(.jag (Jag.mk 25 1 0 (fun _=>.und) 0 3 1 (fun _=>true) (fun _=>0) (fun _ _=>.und)))]⟩
def ent15_2 (a:Int) (n:Nat) (f:Nat->E6) (b:Nat) (tt kk:Int) (th lo:Nat->Int) (x:Nat->V) (r:Nat->Int) (j:Nat->V):St:=⟨(jsV 132 0 j [(4,(.ptr 0 0)),(5,(iV 0)),(6,(iV 0)),(9,(.ref 1)),(10,(nV n)),(11,(.ref 2)),(13,(.ref 3)),(15,(.ptr 4 0)),(16,(nV b)),(17,(.ptr 8 0)),(18,(iV 0)),(48,(nV b)),(49,(nV n)),(50,(bV (ilt (ofNat b) (ofNat n)))),(53,(.ref 2)),(54,(nV b)),(55,(.ept 2 1 b 0)),(56,(iV (th b))),(57,(.ref 1)),(58,(nV b)),(59,(.ept 1 6 b 0)),(60,(.ept 1 6 b 3)),(61,(iV ((shG n f b)).src)),(62,(.ref 3)),(63,(nV b)),(64,(.ept 3 1 b 0)),(65,(iV (lo b))),(66,(.agg [(iV (th b)),(iV 0),(iV ((shG n f b)).src),(iV (lo b)),(iV 0)]))]),[(.cells [(iV 0),.nilS,.nilS,(iV 0),(iV 0),.nilS,.nilS]),(.row 44 6 n (fun i=>(eV (shG n f i)))),(.row 3 1 n (fun k=>(iV (th k)))),(.row 3 1 n (fun k=>(iV (lo k)))),(.cells [(iV a),(.ref 1),(.ref 5),(iV tt),(iV kk),(.ref 6),(.jref 7)]),(.row 40 5 b x),(.row 3 1 b (fun i=>(iV (r i)))),(.jag (Jag.mk 25 1 0 (fun _=>.und) 0 3 1 (fun _=>true) (fun _=>0) (fun _ _=>.und))),(.cells [(iV (th b)),(iV 0),(iV ((shG n f b)).src),(iV (lo b)),(iV 0)])]⟩
def lp15_2 (a:Int) (n:Nat) (f:Nat->E6):Lp:=⟨(bmK 132 0 [4,5,6,9,10,11,13,15,16,17,18]),9,(bmK 132 0 [4,5,6,9,10,11,13,15,16,17]),9,n+1⟩
def st15_2 (a:Int) (n:Nat) (f:Nat->E6) (b:Nat) (tt kk:Int) (th lo:Nat->Int) (x:Nat->V) (r:Nat->Int) (p:Int) (c:Nat) (j:Nat->V):St:=⟨(jsV 132 0 j [(4,.ptr 0 0),(5,iV 0),(6,iV 0),(9,.ref 1),(10,nV n),(11,.ref 2),(13,.ref 3),(15,.ptr 4 0),(16,nV b),(17,.ptr 8 0),(18,nV c)]),[(.cells [(iV 0),.nilS,.nilS,(iV 0),(iV 0),.nilS,.nilS]),(.row 44 6 n (fun i=>(eV (shG n f i)))),(.row 3 1 n (fun k=>(iV (th k)))),(.row 3 1 n (fun k=>(iV (lo k)))),(.cells [(iV a),(.ref 1),(.ref 5),(iV tt),(iV kk),(.ref 6),(.jref 7)]),(.row 40 5 b x),(.row 3 1 b (fun i=>iV (r i))),(.jag (Jag.mk 25 1 0 (fun _=>.und) 0 3 1 (fun _=>true) (fun _=>0) (fun _ _=>.und))),(.cells [(iV (th b)),(iV p),(iV ((shG n f b)).src),(iV (lo b)),(iV 0)])]⟩
def en15_2e (a:Int) (n:Nat) (f:Nat->E6) (b:Nat) (tt kk:Int) (th lo:Nat->Int) (x:Nat->V) (r:Nat->Int) (p:Int) (c:Nat):Ex × St:=(.ex 2,⟨(jsV 132 0 (fun _=>.und) [(4,.ptr 0 0),(5,iV 0),(6,iV 0),(9,.ref 1),(10,nV n),(11,.ref 2),(13,.ref 3),(15,.ptr 4 0),(16,nV b),(17,.ptr 8 0)]),[(.cells [(iV 0),.nilS,.nilS,(iV 0),(iV 0),.nilS,.nilS]),(.row 44 6 n (fun i=>(eV (shG n f i)))),(.row 3 1 n (fun k=>(iV (th k)))),(.row 3 1 n (fun k=>(iV (lo k)))),(.cells [(iV a),(.ref 1),(.ref 5),(iV tt),(iV kk),(.ref 6),(.jref 7)]),(.row 40 5 b x),(.row 3 1 b (fun i=>iV (r i))),(.jag (Jag.mk 25 1 0 (fun _=>.und) 0 3 1 (fun _=>true) (fun _=>0) (fun _ _=>.und))),(.cells [(iV (th b)),(iV p),(iV ((shG n f b)).src),(iV (lo b)),(iV 0)])]⟩)
noncomputable def body15_2 (L:LT):St->T (Ex × St):=fun st=>evalC tab ⟨call15,L,Gl⟩ (loopBody Try.f15 2) 2 st
section
variable (L:LT) (a:Int) (n:Nat) (f:Nat->E6) (b:Nat) (tt kk:Int) (th lo:Nat->Int) (x:Nat->V) (r:Nat->Int) (p:Int) (c:Nat)  (j:Nat->V)
include L a n f b tt kk th lo x r p c j
theorem ri15e (h0:ilt (ofNat c) (ofNat b) = false):roundT (body15_2 L) (lp15_2 a n f) (st15_2 a n f b tt kk th lo x r p c j) = some ((.ex 2),⟨(jsV 132 0 (fun _=>.und) [(4,(.ptr 0 0)),(5,(iV 0)),(6,(iV 0)),(9,(.ref 1)),(10,(nV n)),(11,(.ref 2)),(13,(.ref 3)),(15,(.ptr 4 0)),(16,(nV b)),(17,(.ptr 8 0))]),[(.cells [(iV 0),.nilS,.nilS,(iV 0),(iV 0),.nilS,.nilS]),(.row 44 6 n (fun i=>(eV (shG n f i)))),(.row 3 1 n (fun k=>(iV (th k)))),(.row 3 1 n (fun k=>(iV (lo k)))),(.cells [(iV a),(.ref 1),(.ref 5),(iV tt),(iV kk),(.ref 6),(.jref 7)]),(.row 40 5 b x),(.row 3 1 b (fun i=>(iV (r i)))),(.jag (Jag.mk 25 1 0 (fun _=>.und) 0 3 1 (fun _=>true) (fun _=>0) (fun _ _=>.und))),(.cells [(iV (th b)),(iV p),(iV ((shG n f b)).src),(iV (lo b)),(iV 0)])]⟩):=by
  exact sem_of_path (ds:=[false]) (cs:=[(ilt (ofNat c) (ofNat b))]) (by kernel_rfl) (by simp only [h0] <;> rfl)
theorem ri15n (h0:ilt (ofNat c) (ofNat b) = true) (h19:band (ile 0 (ofNat c)) (ilt (ofNat c) (ofNat n)) = true) (h1:nlt c n = true) (h21:band (ile 0 (ofNat b)) (ilt (ofNat b) (ofNat n)) = true) (h2:nlt b n = true) (h3:ieq (th c) (th b) = false):roundT (body15_2 L) (lp15_2 a n f) (st15_2 a n f b tt kk th lo x r p c j) = some (.nm,⟨(jsV 132 0 (fun _=>.und) [(4,(.ptr 0 0)),(5,(iV 0)),(6,(iV 0)),(9,(.ref 1)),(10,(nV n)),(11,(.ref 2)),(13,(.ref 3)),(15,(.ptr 4 0)),(16,(nV b)),(17,(.ptr 8 0)),(18,(iV (wr .i64 (iadd (ofNat c) 1))))]),[(.cells [(iV 0),.nilS,.nilS,(iV 0),(iV 0),.nilS,.nilS]),(.row 44 6 n (fun i=>(eV (shG n f i)))),(.row 3 1 n (fun k=>(iV (th k)))),(.row 3 1 n (fun k=>(iV (lo k)))),(.cells [(iV a),(.ref 1),(.ref 5),(iV tt),(iV kk),(.ref 6),(.jref 7)]),(.row 40 5 b x),(.row 3 1 b (fun i=>(iV (r i)))),(.jag (Jag.mk 25 1 0 (fun _=>.und) 0 3 1 (fun _=>true) (fun _=>0) (fun _ _=>.und))),(.cells [(iV (th b)),(iV p),(iV ((shG n f b)).src),(iV (lo b)),(iV 0)])]⟩):=by
  exact sem_of_path (ds:=bbK 6 31) (cs:=[(ilt (ofNat c) (ofNat b)),(band (ile 0 (ofNat c)) (ilt (ofNat c) (ofNat n))),(nlt c n),(band (ile 0 (ofNat b)) (ilt (ofNat b) (ofNat n))),(nlt b n),(ieq (th c) (th b))]) (by kernel_rfl) (by simp only [h19,h21] <;> simp only [h0,h1,h2,h3] <;> rfl)
theorem ri15y (h0:ilt (ofNat c) (ofNat b) = true) (h19:band (ile 0 (ofNat c)) (ilt (ofNat c) (ofNat n)) = true) (h1:nlt c n = true) (h21:band (ile 0 (ofNat b)) (ilt (ofNat b) (ofNat n)) = true) (h2:nlt b n = true) (h3:ieq (th c) (th b) = true):roundT (body15_2 L) (lp15_2 a n f) (st15_2 a n f b tt kk th lo x r p c j) = some (.nm,⟨(jsV 132 0 (fun _=>.und) [(4,(.ptr 0 0)),(5,(iV 0)),(6,(iV 0)),(9,(.ref 1)),(10,(nV n)),(11,(.ref 2)),(13,(.ref 3)),(15,(.ptr 4 0)),(16,(nV b)),(17,(.ptr 8 0)),(18,(iV (wr .i64 (iadd (ofNat c) 1))))]),[(.cells [(iV 0),.nilS,.nilS,(iV 0),(iV 0),.nilS,.nilS]),(.row 44 6 n (fun i=>(eV (shG n f i)))),(.row 3 1 n (fun k=>(iV (th k)))),(.row 3 1 n (fun k=>(iV (lo k)))),(.cells [(iV a),(.ref 1),(.ref 5),(iV tt),(iV kk),(.ref 6),(.jref 7)]),(.row 40 5 b x),(.row 3 1 b (fun i=>(iV (r i)))),(.jag (Jag.mk 25 1 0 (fun _=>.und) 0 3 1 (fun _=>true) (fun _=>0) (fun _ _=>.und))),(.cells [(iV (th b)),(iV (wr .i64 (iadd p 1))),(iV ((shG n f b)).src),(iV (lo b)),(iV 0)])]⟩):=by
  exact sem_of_path (ds:=bbK 6 63) (cs:=[(ilt (ofNat c) (ofNat b)),(band (ile 0 (ofNat c)) (ilt (ofNat c) (ofNat n))),(nlt c n),(band (ile 0 (ofNat b)) (ilt (ofNat b) (ofNat n))),(nlt b n),(ieq (th c) (th b))]) (by kernel_rfl) (by simp only [h19,h21] <;> simp only [h0,h1,h2,h3] <;> rfl)
end
section
variable (L:LT) (p2:PT) (a:Int) (n:Nat) (f:Nat->E6) (b:Nat) (tt kk:Int) (th lo:Nat->Int) (x:Nat->V) (r:Nat->Int) (p:Int) (j:Nat->V)
include L p2 a n f b tt kk th lo x r p j
theorem rf15tt (h0:ilt (ofNat b) (ofNat n) = true) (h17:ile 0 (ofNat b) = true) (h18:nlt b n = true) (h19:apOK b 1 40 = true) (h20:apOK b 1 8 = true) (h1:ile tt (th b) = true) (h2:ile kk (lo b) = true) (hp2:p2 (body15_2 (onP 2 p2 (en15_2e a n f b tt kk th lo x r p b) L)) (ent15_2 a n f b tt kk th lo x r j) = true):roundT (body15 (onP 2 p2 (en15_2e a n f b tt kk th lo x r p b) L)) (lp15 a n f) (st15 a n f b tt kk th lo x r j) = some (.nm,⟨(jsV 132 0 (fun _=>.und) [(4,(.ptr 0 0)),(5,(iV 0)),(6,(iV 0)),(9,(.ref 1)),(10,(nV n)),(11,(.ref 2)),(13,(.ref 3)),(15,(.ptr 4 0)),(16,(iV (wr .i64 (iadd (ofNat b) 1))))]),[(.cells [(iV 0),.nilS,.nilS,(iV 0),(iV 0),.nilS,.nilS]),(.row 44 6 n (fun i=>(eV (shG n f i)))),(.row 3 1 n (fun k=>(iV (th k)))),(.row 3 1 n (fun k=>(iV (lo k)))),(.cells [(iV a),(.ref 1),(.ref 5),(iV (wr .i64 (iadd (th b) 1))),(iV (wr .i64 (iadd (lo b) 1))),(.ref 6),(.jref 7)]),(.row 40 5 (nadd b 1) (pushGet b x (.agg [(iV (th b)),(iV p),(iV ((shG n f b)).src),(iV (lo b)),(iV 0)]))),(.row 3 1 (nadd b 1) (pushGet b (fun i=>(iV (r i))) (iV (-1)))),(.jag (Jag.mk 25 1 0 (fun _=>.und) 0 3 1 (fun _=>true) (fun _=>0) (fun _ _=>.und)))]⟩):=by
  exact sem_of_path (ds:=bbK 62 4611686018427387903) (cs:=((fun c0 c1 c2 c3 c4 c5 c6 c7=>[(ilt (ofNat b) (ofNat n)),c0,c1,c0,c1,c0,c1,c2,c0,c3,c1,c4,c2,c0,c3,c3,c1,c5,c2,c0,c3,c1,c6,c4,c7,c5,c6,c7,c2,c0,c3,c1,c4,c2,c0,c3,c3,c1,c5,c2,c0,c3,c1,c6,c4,c7,c5,c6,c7,(p2 (body15_2 (onP 2 p2 (en15_2e a n f b tt kk th lo x r p b) L)) (ent15_2 a n f b tt kk th lo x r j)),(apOK b 1 40),(apOK b 1 8),c0,c1,(ile tt (th b)),c0,c1,c0,c1,(ile kk (lo b)),c0,c1]) (band (ile 0 (ofNat b)) (ilt (ofNat b) (ofNat n))) (nlt b n) (ieq (ofNat b) (ofNat b)) (nbeq b b) (ieq (th b) (th b)) (ieq ((shG n f b)).src ((shG n f b)).src) (ieq (lo b) (lo b)) (ieq 0 0))) (by kernel_rfl) (by simp only [hp2] <;> simp only [h0,h17,h18,h19,h20,h1,h2,ieq_self,nbeq_self] <;> rfl)
theorem rf15tf (h0:ilt (ofNat b) (ofNat n) = true) (h17:ile 0 (ofNat b) = true) (h18:nlt b n = true) (h19:apOK b 1 40 = true) (h20:apOK b 1 8 = true) (h1:ile tt (th b) = true) (h2:ile kk (lo b) = false) (hp2:p2 (body15_2 (onP 2 p2 (en15_2e a n f b tt kk th lo x r p b) L)) (ent15_2 a n f b tt kk th lo x r j) = true):roundT (body15 (onP 2 p2 (en15_2e a n f b tt kk th lo x r p b) L)) (lp15 a n f) (st15 a n f b tt kk th lo x r j) = some (.nm,⟨(jsV 132 0 (fun _=>.und) [(4,(.ptr 0 0)),(5,(iV 0)),(6,(iV 0)),(9,(.ref 1)),(10,(nV n)),(11,(.ref 2)),(13,(.ref 3)),(15,(.ptr 4 0)),(16,(iV (wr .i64 (iadd (ofNat b) 1))))]),[(.cells [(iV 0),.nilS,.nilS,(iV 0),(iV 0),.nilS,.nilS]),(.row 44 6 n (fun i=>(eV (shG n f i)))),(.row 3 1 n (fun k=>(iV (th k)))),(.row 3 1 n (fun k=>(iV (lo k)))),(.cells [(iV a),(.ref 1),(.ref 5),(iV (wr .i64 (iadd (th b) 1))),(iV kk),(.ref 6),(.jref 7)]),(.row 40 5 (nadd b 1) (pushGet b x (.agg [(iV (th b)),(iV p),(iV ((shG n f b)).src),(iV (lo b)),(iV 0)]))),(.row 3 1 (nadd b 1) (pushGet b (fun i=>(iV (r i))) (iV (-1)))),(.jag (Jag.mk 25 1 0 (fun _=>.und) 0 3 1 (fun _=>true) (fun _=>0) (fun _ _=>.und)))]⟩):=by
  exact sem_of_path (ds:=bbK 60 576460752303423487) (cs:=((fun c0 c1 c2 c3 c4 c5 c6 c7=>[(ilt (ofNat b) (ofNat n)),c0,c1,c0,c1,c0,c1,c2,c0,c3,c1,c4,c2,c0,c3,c3,c1,c5,c2,c0,c3,c1,c6,c4,c7,c5,c6,c7,c2,c0,c3,c1,c4,c2,c0,c3,c3,c1,c5,c2,c0,c3,c1,c6,c4,c7,c5,c6,c7,(p2 (body15_2 (onP 2 p2 (en15_2e a n f b tt kk th lo x r p b) L)) (ent15_2 a n f b tt kk th lo x r j)),(apOK b 1 40),(apOK b 1 8),c0,c1,(ile tt (th b)),c0,c1,c0,c1,(ile kk (lo b))]) (band (ile 0 (ofNat b)) (ilt (ofNat b) (ofNat n))) (nlt b n) (ieq (ofNat b) (ofNat b)) (nbeq b b) (ieq (th b) (th b)) (ieq ((shG n f b)).src ((shG n f b)).src) (ieq (lo b) (lo b)) (ieq 0 0))) (by kernel_rfl) (by simp only [hp2] <;> simp only [h0,h17,h18,h19,h20,h1,h2,ieq_self,nbeq_self] <;> rfl)
theorem rf15ft (h0:ilt (ofNat b) (ofNat n) = true) (h17:ile 0 (ofNat b) = true) (h18:nlt b n = true) (h19:apOK b 1 40 = true) (h20:apOK b 1 8 = true) (h1:ile tt (th b) = false) (h2:ile kk (lo b) = true) (hp2:p2 (body15_2 (onP 2 p2 (en15_2e a n f b tt kk th lo x r p b) L)) (ent15_2 a n f b tt kk th lo x r j) = true):roundT (body15 (onP 2 p2 (en15_2e a n f b tt kk th lo x r p b) L)) (lp15 a n f) (st15 a n f b tt kk th lo x r j) = some (.nm,⟨(jsV 132 0 (fun _=>.und) [(4,(.ptr 0 0)),(5,(iV 0)),(6,(iV 0)),(9,(.ref 1)),(10,(nV n)),(11,(.ref 2)),(13,(.ref 3)),(15,(.ptr 4 0)),(16,(iV (wr .i64 (iadd (ofNat b) 1))))]),[(.cells [(iV 0),.nilS,.nilS,(iV 0),(iV 0),.nilS,.nilS]),(.row 44 6 n (fun i=>(eV (shG n f i)))),(.row 3 1 n (fun k=>(iV (th k)))),(.row 3 1 n (fun k=>(iV (lo k)))),(.cells [(iV a),(.ref 1),(.ref 5),(iV tt),(iV (wr .i64 (iadd (lo b) 1))),(.ref 6),(.jref 7)]),(.row 40 5 (nadd b 1) (pushGet b x (.agg [(iV (th b)),(iV p),(iV ((shG n f b)).src),(iV (lo b)),(iV 0)]))),(.row 3 1 (nadd b 1) (pushGet b (fun i=>(iV (r i))) (iV (-1)))),(.jag (Jag.mk 25 1 0 (fun _=>.und) 0 3 1 (fun _=>true) (fun _=>0) (fun _ _=>.und)))]⟩):=by
  exact sem_of_path (ds:=bbK 60 1134907106097364991) (cs:=((fun c0 c1 c2 c3 c4 c5 c6 c7=>[(ilt (ofNat b) (ofNat n)),c0,c1,c0,c1,c0,c1,c2,c0,c3,c1,c4,c2,c0,c3,c3,c1,c5,c2,c0,c3,c1,c6,c4,c7,c5,c6,c7,c2,c0,c3,c1,c4,c2,c0,c3,c3,c1,c5,c2,c0,c3,c1,c6,c4,c7,c5,c6,c7,(p2 (body15_2 (onP 2 p2 (en15_2e a n f b tt kk th lo x r p b) L)) (ent15_2 a n f b tt kk th lo x r j)),(apOK b 1 40),(apOK b 1 8),c0,c1,(ile tt (th b)),c0,c1,(ile kk (lo b)),c0,c1]) (band (ile 0 (ofNat b)) (ilt (ofNat b) (ofNat n))) (nlt b n) (ieq (ofNat b) (ofNat b)) (nbeq b b) (ieq (th b) (th b)) (ieq ((shG n f b)).src ((shG n f b)).src) (ieq (lo b) (lo b)) (ieq 0 0))) (by kernel_rfl) (by simp only [hp2] <;> simp only [h0,h17,h18,h19,h20,h1,h2,ieq_self,nbeq_self] <;> rfl)
theorem rf15ff (h0:ilt (ofNat b) (ofNat n) = true) (h17:ile 0 (ofNat b) = true) (h18:nlt b n = true) (h19:apOK b 1 40 = true) (h20:apOK b 1 8 = true) (h1:ile tt (th b) = false) (h2:ile kk (lo b) = false) (hp2:p2 (body15_2 (onP 2 p2 (en15_2e a n f b tt kk th lo x r p b) L)) (ent15_2 a n f b tt kk th lo x r j) = true):roundT (body15 (onP 2 p2 (en15_2e a n f b tt kk th lo x r p b) L)) (lp15 a n f) (st15 a n f b tt kk th lo x r j) = some (.nm,⟨(jsV 132 0 (fun _=>.und) [(4,(.ptr 0 0)),(5,(iV 0)),(6,(iV 0)),(9,(.ref 1)),(10,(nV n)),(11,(.ref 2)),(13,(.ref 3)),(15,(.ptr 4 0)),(16,(iV (wr .i64 (iadd (ofNat b) 1))))]),[(.cells [(iV 0),.nilS,.nilS,(iV 0),(iV 0),.nilS,.nilS]),(.row 44 6 n (fun i=>(eV (shG n f i)))),(.row 3 1 n (fun k=>(iV (th k)))),(.row 3 1 n (fun k=>(iV (lo k)))),(.cells [(iV a),(.ref 1),(.ref 5),(iV tt),(iV kk),(.ref 6),(.jref 7)]),(.row 40 5 (nadd b 1) (pushGet b x (.agg [(iV (th b)),(iV p),(iV ((shG n f b)).src),(iV (lo b)),(iV 0)]))),(.row 3 1 (nadd b 1) (pushGet b (fun i=>(iV (r i))) (iV (-1)))),(.jag (Jag.mk 25 1 0 (fun _=>.und) 0 3 1 (fun _=>true) (fun _=>0) (fun _ _=>.und)))]⟩):=by
  exact sem_of_path (ds:=bbK 58 126100789566373887) (cs:=((fun c0 c1 c2 c3 c4 c5 c6 c7=>[(ilt (ofNat b) (ofNat n)),c0,c1,c0,c1,c0,c1,c2,c0,c3,c1,c4,c2,c0,c3,c3,c1,c5,c2,c0,c3,c1,c6,c4,c7,c5,c6,c7,c2,c0,c3,c1,c4,c2,c0,c3,c3,c1,c5,c2,c0,c3,c1,c6,c4,c7,c5,c6,c7,(p2 (body15_2 (onP 2 p2 (en15_2e a n f b tt kk th lo x r p b) L)) (ent15_2 a n f b tt kk th lo x r j)),(apOK b 1 40),(apOK b 1 8),c0,c1,(ile tt (th b)),c0,c1,(ile kk (lo b))]) (band (ile 0 (ofNat b)) (ilt (ofNat b) (ofNat n))) (nlt b n) (ieq (ofNat b) (ofNat b)) (nbeq b b) (ieq (th b) (th b)) (ieq ((shG n f b)).src ((shG n f b)).src) (ieq (lo b) (lo b)) (ieq 0 0))) (by kernel_rfl) (by simp only [hp2] <;> simp only [h0,h17,h18,h19,h20,h1,h2,ieq_self,nbeq_self] <;> rfl)
end
def lp15_4 (a:Int) (n:Nat) (f:Nat->E6):Lp:=⟨(bmK 132 0 [4,15,19]),8,(bmK 132 0 [4,15]),8,17⟩
def st15_4 (a:Int) (n:Nat) (f:Nat->E6) (b kk:Nat) (tt:Int) (th lo:Nat->Int) (x:Nat->Ev5) (r:Nat->Int) (ln:Nat->Nat) (co:Nat->Nat->Int) (j:Nat->V):St:=⟨(jsV 132 0 j [(4,.ptr 0 0),(15,.ptr 4 0),(19,nV b)]),[(.cells [(iV 0),.nilS,.nilS,(iV 0),(iV 0),.nilS,.nilS]),(.row 44 6 n (fun i=>eV (shG n f i))),(.row 3 1 n (fun i=>iV (th i))),(.row 3 1 n (fun i=>iV (lo i))),(.cells [(iV a),(.ref 1),(.ref 5),(iV tt),(nV kk),(.ref 6),(.jref 7)]),(.row 40 5 n (fun i=>evV (x i))),(.row 3 1 n (fun i=>iV (r i))),(.jag (Jag.mk 25 1 b (fun _=>.und) 0 3 1 (fun _=>true) ln (fun i q=>iV (co i q))))]⟩
def en15_4e (a:Int) (n:Nat) (f:Nat->E6) (b kk:Nat) (tt:Int) (th lo:Nat->Int) (x:Nat->Ev5) (r:Nat->Int) (ln:Nat->Nat) (co:Nat->Nat->Int):Ex × St:=(.ex 4,⟨(jsV 132 0 (fun _=>.und) [(4,.ptr 0 0),(15,.ptr 4 0)]),[(.cells [(iV 0),.nilS,.nilS,(iV 0),(iV 0),.nilS,.nilS]),(.row 44 6 n (fun i=>eV (shG n f i))),(.row 3 1 n (fun i=>iV (th i))),(.row 3 1 n (fun i=>iV (lo i))),(.cells [(iV a),(.ref 1),(.ref 5),(iV tt),(nV kk),(.ref 6),(.jref 7)]),(.row 40 5 n (fun i=>evV (x i))),(.row 3 1 n (fun i=>iV (r i))),(.jag (Jag.mk 25 1 b (fun _=>.und) 0 3 1 (fun _=>true) ln (fun i q=>iV (co i q))))]⟩)
def sl15_4 (b:Nat) (u:Nat->V):List V:=(jsV 132 0 u [(4,.ptr 0 0),(15,.ptr 4 0),(19,nV b)])
noncomputable def body15_4 (L:LT):St->T (Ex × St):=fun st=>evalC tab ⟨call15,L,Gl⟩ (loopBody Try.f15 4) 4 st
theorem rk15e (L:LT) (a:Int) (n:Nat) (f:Nat->E6) (b kk:Nat) (tt:Int) (th lo:Nat->Int) (x:Nat->Ev5) (r:Nat->Int) (ln:Nat->Nat) (co:Nat->Nat->Int)  (j:Nat->V) (h0:ilt (ofNat b) (ofNat kk) = false):(((evalC tab ⟨call15,L,Gl⟩ (loopBody Try.f15 4) 4 (st15_4 a n f b kk tt th lo x r ln co j)).bind fun rr=>T.leaf (cutR (lp15_4 a n f) rr))).sem = some ((.ex 4),⟨(jsV 132 0 (fun _=>.und) [(4,(.ptr 0 0)),(15,(.ptr 4 0))]),[(.cells [(iV 0),.nilS,.nilS,(iV 0),(iV 0),.nilS,.nilS]),(.row 44 6 n (fun i=>(eV (shG n f i)))),(.row 3 1 n (fun i=>(iV (th i)))),(.row 3 1 n (fun i=>(iV (lo i)))),(.cells [(iV a),(.ref 1),(.ref 5),(iV tt),(nV kk),(.ref 6),(.jref 7)]),(.row 40 5 n (fun i=>(.agg [(iV ((x i)).th),(iV ((x i)).pl),(iV ((x i)).dir),(iV ((x i)).loc),(iV ((x i)).val)]))),(.row 3 1 n (fun i=>(iV (r i)))),(.jag (Jag.mk 25 1 b (fun _=>.und) 0 3 1 (fun _=>true) ln (fun i q=>(iV (co i q)))))]⟩):=by
  exact sem_of_path (ds:=[false]) (cs:=[(ilt (ofNat b) (ofNat kk))]) (by kernel_rfl) (by simp only [h0] <;> rfl)
theorem rk15w (L:LT) (a:Int) (n:Nat) (f:Nat->E6) (b kk:Nat) (tt:Int) (th lo:Nat->Int) (x:Nat->Ev5) (r:Nat->Int) (ln:Nat->Nat) (co:Nat->Nat->Int) (u:Nat->V) (x':Nat->Ev5) (r':Nat->Int) (ln':Nat->Nat) (co':Nat->Nat->Int) (lv':Nat->Bool) (c':Nat->V) (d:List Blk) (q59:List V->St->Bool) (j:Nat->V) (h0:ilt (ofNat b) (ofNat kk) = true) (hq59:(q59 [(.agg [(iV a),(.ref 1),(.ref 5),(iV tt),(nV kk),(.ref 6),(.jref 7)]),(nV b)] ⟨(jsV 132 0 j [(4,(.ptr 0 0)),(15,(.ptr 4 0)),(19,(nV b)),(122,(nV b)),(123,(.ptr 4 4)),(124,(nV kk)),(125,(bV (ilt (ofNat b) (ofNat kk)))),(128,(.agg [(iV a),(.ref 1),(.ref 5),(iV tt),(nV kk),(.ref 6),(.jref 7)])),(129,(nV b))]),[(.cells [(iV 0),.nilS,.nilS,(iV 0),(iV 0),.nilS,.nilS]),(.row 44 6 n (fun i=>(eV (shG n f i)))),(.row 3 1 n (fun i=>(iV (th i)))),(.row 3 1 n (fun i=>(iV (lo i)))),(.cells [(iV a),(.ref 1),(.ref 5),(iV tt),(nV kk),(.ref 6),(.jref 7)]),(.row 40 5 n (fun i=>(.agg [(iV ((x i)).th),(iV ((x i)).pl),(iV ((x i)).dir),(iV ((x i)).loc),(iV ((x i)).val)]))),(.row 3 1 n (fun i=>(iV (r i)))),(.jag (Jag.mk 25 1 b (fun _=>.und) 0 3 1 (fun _=>true) ln (fun i q=>(iV (co i q)))))]⟩) = true):(((evalC tab ⟨(onC 59 q59 ((.agg [(iV a),(.ref 1),(.ref 5),(iV tt),(nV kk),(.ref 6),(.jref 7)]),.all ⟨sl15_4 b u,[(.cells [(iV 0),.nilS,.nilS,(iV 0),(iV 0),.nilS,.nilS]),(.row 44 6 n (fun i=>eV (shG n f i))),(.row 3 1 n (fun i=>iV (th i))),(.row 3 1 n (fun i=>iV (lo i))),(.cells [(iV a),(.ref 1),(.ref 5),(iV tt),(nV kk),(.ref 6),.und]),(.row 40 5 n (fun i=>evV (x' i))),(.row 3 1 n (fun i=>iV (r' i))),(.jag (Jag.mk 25 1 (nadd b 1) c' 0 3 1 lv' ln' (fun i q=>iV (co' i q))))] ++ d⟩) (call15)),L,Gl⟩ (loopBody Try.f15 4) 4 (st15_4 a n f b kk tt th lo x r ln co j)).bind fun rr=>T.leaf (cutR (lp15_4 a n f) rr))).sem = some (.nm,⟨(jsV 132 0 (fun _=>.und) [(4,(.ptr 0 0)),(15,(.ptr 4 0)),(19,(iV (wr .i64 (iadd (ofNat b) 1))))]),[(.cells [(iV 0),.nilS,.nilS,(iV 0),(iV 0),.nilS,.nilS]),(.row 44 6 n (fun i=>(eV (shG n f i)))),(.row 3 1 n (fun i=>(iV (th i)))),(.row 3 1 n (fun i=>(iV (lo i)))),(.cells [(iV a),(.ref 1),(.ref 5),(iV tt),(nV kk),(.ref 6),(.jref 7)]),(.row 40 5 n (fun i=>(.agg [(iV ((x' i)).th),(iV ((x' i)).pl),(iV ((x' i)).dir),(iV ((x' i)).loc),(iV ((x' i)).val)]))),(.row 3 1 n (fun i=>(iV (r' i)))),(.jag (Jag.mk 25 1 (nadd b 1) c' 0 3 1 lv' ln' (fun i q=>(iV (co' i q)))))]⟩):=by
  exact sem_of_path (ds:=[true,true]) (cs:=[(ilt (ofNat b) (ofNat kk)),(q59 [(.agg [(iV a),(.ref 1),(.ref 5),(iV tt),(nV kk),(.ref 6),(.jref 7)]),(nV b)] ⟨(jsV 132 0 j [(4,(.ptr 0 0)),(15,(.ptr 4 0)),(19,(nV b)),(122,(nV b)),(123,(.ptr 4 4)),(124,(nV kk)),(125,(bV (ilt (ofNat b) (ofNat kk)))),(128,(.agg [(iV a),(.ref 1),(.ref 5),(iV tt),(nV kk),(.ref 6),(.jref 7)])),(129,(nV b))]),[(.cells [(iV 0),.nilS,.nilS,(iV 0),(iV 0),.nilS,.nilS]),(.row 44 6 n (fun i=>(eV (shG n f i)))),(.row 3 1 n (fun i=>(iV (th i)))),(.row 3 1 n (fun i=>(iV (lo i)))),(.cells [(iV a),(.ref 1),(.ref 5),(iV tt),(nV kk),(.ref 6),(.jref 7)]),(.row 40 5 n (fun i=>(.agg [(iV ((x i)).th),(iV ((x i)).pl),(iV ((x i)).dir),(iV ((x i)).loc),(iV ((x i)).val)]))),(.row 3 1 n (fun i=>(iV (r i)))),(.jag (Jag.mk 25 1 b (fun _=>.und) 0 3 1 (fun _=>true) ln (fun i q=>(iV (co i q)))))]⟩)]) (by kernel_rfl) (by simp only [hq59] <;> simp only [h0] <;> rfl)
def ent15_4 (a:Int) (n:Nat) (f:Nat->E6) (tt:Int) (kk:Nat) (th lo:Nat->Int) (x:Nat->Ev5) (r:Nat->Int):St:=⟨(jsV 132 0 (fun _=>.und) [(4,(.ptr 0 0)),(5,(iV 0)),(6,(iV 0)),(15,(.ptr 4 0)),(19,(iV 0))]),[(.cells [(iV 0),.nilS,.nilS,(iV 0),(iV 0),.nilS,.nilS]),(.row 44 6 n (fun i=>(eV (shG n f i)))),(.row 3 1 n (fun k=>(iV (th k)))),(.row 3 1 n (fun k=>(iV (lo k)))),(.cells [(iV a),(.ref 1),(.ref 5),(iV tt),(nV kk),(.ref 6),(.jref 7)]),(.row 40 5 n (fun i=>(.agg [(iV ((x i)).th),(iV ((x i)).pl),(iV ((x i)).dir),(iV ((x i)).loc),(iV ((x i)).val)]))),(.row 3 1 n (fun i=>(iV (r i)))),(.jag (Jag.mk 25 1 0 (fun _=>.und) 0 3 1 (fun _=>true) (fun _=>0) (fun _ _=>.und)))]⟩
theorem w15o (L:LT) (p0:PT) (p4:PT) (a:Int) (n:Nat) (f:Nat->E6) (tt:Int) (kk:Nat) (th lo:Nat->Int) (x:Nat->Ev5) (r:Nat->Int) (x':Nat->Ev5) (r':Nat->Int) (ln':Nat->Nat) (co':Nat->Nat->Int) (h16:fitN n = true) (h0:ieq (chkE a n f) 0 = true) (h1:cycB n f = true) (h17:mayN n (fun i=>(shG n f i)) = true) (h18:rowsBare [.row 3 1 n (fun _=>iV 0)] = true) (hp0:p0 (body15 (onP 0 p0 (en15e a n f n tt (ofNat kk) th lo (fun i=>evV (x i)) r) (onP 4 p4 (en15_4e a n f kk kk tt th lo x' r' ln' co') L))) (ent15 a n f) = true) (hp4:p4 (body15_4 (onP 0 p0 (en15e a n f n tt (ofNat kk) th lo (fun i=>evV (x i)) r) (onP 4 p4 (en15_4e a n f kk kk tt th lo x' r' ln' co') L))) (ent15_4 a n f tt kk th lo x r) = true):(finF (evalF tab ⟨call15,(onP 0 p0 (en15e a n f n tt (ofNat kk) th lo (fun i=>evV (x i)) r) (onP 4 p4 (en15_4e a n f kk kk tt th lo x' r' ln' co') L)),Gl⟩ Try.f15 [iV a,.sl 6 n fun i=>eV (f i)] [])).sem = some ((.tup [(.agg [(iV a),(.ref 0),(.ref 1),(iV tt),(nV kk),(.ref 2),(.jref 3)]),(iV 0),(iV 0)]),[(.row 44 6 n (fun i=>(eV (shG n f i)))),(.row 40 5 n (fun i=>(.agg [(iV ((x' i)).th),(iV ((x' i)).pl),(iV ((x' i)).dir),(iV ((x' i)).loc),(iV ((x' i)).val)]))),(.row 3 1 n (fun i=>(iV (r' i)))),(.jag (Jag.mk 25 1 kk (fun _=>.und) 0 3 1 (fun _=>true) ln' (fun i q=>(iV (co' i q)))))]):=by
  exact sem_of_path (ds:=bbK 16 65531) (cs:=((fun c0 c1 c2 c3=>[c0,c1,(bnot (ieq (chkE a n f) 0)),c0,c1,(cycB n f),c0,c1,c2,c3,c0,c1,c2,c3,(p0 (body15 (onP 0 p0 (en15e a n f n tt (ofNat kk) th lo (fun i=>evV (x i)) r) (onP 4 p4 (en15_4e a n f kk kk tt th lo x' r' ln' co') L))) (ent15 a n f)),(p4 (body15_4 (onP 0 p0 (en15e a n f n tt (ofNat kk) th lo (fun i=>evV (x i)) r) (onP 4 p4 (en15_4e a n f kk kk tt th lo x' r' ln' co') L))) (ent15_4 a n f tt kk th lo x r))]) (allN n (fun _=>true)) (fitN n) (mayN n (fun i=>(shG n f i))) (rowsBare [.row 3 1 n (fun _=>iV 0)]))) (by kernel_rfl) (by simp only [hp0,hp4] <;> simp only [h16,h0,h1,h17,h18,allN_true,rowsBare_iV] <;> rfl)
theorem ile_nat (a b:Nat):ile (ofNat a) (ofNat b) = decide (a <= b):=by
  unfold ile
  rw [Bool.eq_iff_iff]
  simp
theorem ieq_comm (a b:Int):ieq a b = ieq b a:=by
  unfold ieq
  rw [Bool.eq_iff_iff]
  simp only [beq_iff_eq]
  exact eq_comm
theorem run15i (L:LT) (a:Int) (n:Nat) (f:Nat->E6) (b:Nat) (tt kk:Int) (th lo:Nat->Int) (x:Nat->V) (r:Nat->Int) (hb:b < n) (hn:n <= 16):∀ (e c:Nat) (j:Nat->V) (q:Nat),b = c+e->e < q ->
    (iterT (body15_2 L) (lp15_2 a n f) q (st15_2 a n f b tt kk th lo x r (ofNat (cntB (fun k=>ieq (th k) (th b)) c)) c j)).sem = some (en15_2e a n f b tt kk th lo x r (ofNat (cntB (fun k=>ieq (th k) (th b)) b)) b)
  | 0,c,j,q+1,h,_=>by
    have:b = c:=by omega
    subst this
    exact iter_round (ri15e L a n f b tt kk th lo x r _ b j (ofNat_ge (Nat.le_refl _)))
  | e+1,c,j,q+1,h,h2=>by
    have hl:c < b:=by omega
    have hc:=cntB_le (fun k=>ieq (th k) (th b)) c
    cases hp:ieq (th c) (th b) with
    | true =>
      rw [iter_round (ri15y L a n f b tt kk th lo x r _ c j (ofNat_lt hl) (ofNat_in (by omega)) (decide_eq_true (by omega)) (ofNat_in hb) (decide_eq_true hb) hp),goOn_nm,succ_wr hl (by omega),succ_wr (n:=n) (by omega) (by omega),<- cntB_t (p:=fun k=>ieq (th k) (th b)) hp]
      exact run15i L a n f b tt kk th lo x r hb hn e (c+1) (fun _=>.und) q (by omega) (by omega)
    | false =>
      rw [iter_round (ri15n L a n f b tt kk th lo x r _ c j (ofNat_lt hl) (ofNat_in (by omega)) (decide_eq_true (by omega)) (ofNat_in hb) (decide_eq_true hb) hp),goOn_nm,succ_wr hl (by omega),<- cntB_f (p:=fun k=>ieq (th k) (th b)) hp]
      exact run15i L a n f b tt kk th lo x r hb hn e (c+1) (fun _=>.und) q (by omega) (by omega)
theorem ent15_2_eq (a:Int) (n:Nat) (f:Nat->E6) (b:Nat) (tt kk:Int) (th lo:Nat->Int) (x:Nat->V) (r:Nat->Int) (j:Nat->V):ent15_2 a n f b tt kk th lo x r j = st15_2 a n f b tt kk th lo x r 0 0 (fun i=>nth (ent15_2 a n f b tt kk th lo x r j).t i):=by kernel_rfl
theorem ge_r {p:Nat->Bool} {n b:Nat} (hb:b < n) (hn:n <= 16):(ile (ofNat (rN p n b)) (partF p n b) = true ∧ wr .i64 (iadd (partF p n b) 1) = ofNat (rN p n (b+1))) ∨ (ile (ofNat (rN p n b)) (partF p n b) = false ∧ rN p n b = rN p n (b+1)):=by
  have h1:=part_le p n b hb
  have h2:=rN_le p n b
  rw [partF_N hb,succ_wr (n:=n) (by omega) (by omega),ile_nat,rN]
  by_cases h:partN p n b < rN p n b
  · rw [if_pos h]
    exact .inr ⟨decide_eq_false (by omega),rfl⟩
  · rw [if_neg h]
    exact .inl ⟨decide_eq_true (by omega),by rw [show partN p n b = rN p n b by omega]⟩
theorem run15 (M:LT) (hMM:LLe M M) (a:Int) (n:Nat) (f:Nat->E6) (m2:∀ g st,M 2 g st = iterT g (lp15_2 a n f) (n+1) st) (hn:n <= 16):∀ (e b:Nat) (j:Nat->V) (q:Nat),n = b+e->e < q ->
    (iterT (body15 M) (lp15 a n f) q (st15 a n f b (ofNat (rN (obF (shG n f)) n b)) (ofNat (rN (mbF (shG n f)) n b)) (thF n (shG n f)) (loF n (shG n f)) (fun i=>evV (upX n (shG n f) b i)) (fun _=>-1) j)).sem = some (en15e a n f n (ofNat (rN (obF (shG n f)) n n)) (ofNat (rN (mbF (shG n f)) n n)) (thF n (shG n f)) (loF n (shG n f)) (fun i=>evV (upX n (shG n f) n i)) (fun _=>-1))
  | 0,b,j,q+1,h,_=>by
    have:n = b:=by omega
    subst this
    exact iter_round (rf15e M a n f n _ _ _ _ _ _ j (ofNat_ge (Nat.le_refl _)))
  | e+1,b,j,q+1,h,h2=>by
    have hl:b < n:=by omega
    have hi:∀ M',(M 2 (body15_2 M') (ent15_2 a n f b (ofNat (rN (obF (shG n f)) n b)) (ofNat (rN (mbF (shG n f)) n b)) (thF n (shG n f)) (loF n (shG n f)) (fun i=>evV (upX n (shG n f) b i)) (fun _=>-1) j)).sem = some (en15_2e a n f b (ofNat (rN (obF (shG n f)) n b)) (ofNat (rN (mbF (shG n f)) n b)) (thF n (shG n f)) (loF n (shG n f)) (fun i=>evV (upX n (shG n f) b i)) (fun _=>-1) (ofNat (cntB (fun k=>ieq (thF n (shG n f) k) (thF n (shG n f) b)) b)) b):=fun M'=>by
      rw [m2,ent15_2_eq]
      exact run15i M' a n f b (ofNat (rN (obF (shG n f)) n b)) (ofNat (rN (mbF (shG n f)) n b)) (thF n (shG n f)) (loF n (shG n f)) (fun i=>evV (upX n (shG n f) b i)) (fun _=>-1) hl hn b 0 _ (n+1) (by omega) (by omega)
    have hx:=upX_push n (shG n f) b
    rw [show evV (evF n (shG n f) (fun _=>false) b) = .agg [iV (thF n (shG n f) b),iV (ofNat (cntB (fun k=>ieq (thF n (shG n f) k) (thF n (shG n f) b)) b)),iV (shG n f b).src,iV (loF n (shG n f) b),iV 0] by
      rw [evF_in hl,show cntB (fun k=>ieq (thF n (shG n f) k) (thF n (shG n f) b)) b = plF n (shG n f) b from cnt_congr fun i _=>ieq_comm _ _]; rfl] at hx
    have next:=run15 M hMM a n f m2 hn e (b+1) (fun _=>.und) q (by omega) (by omega)
    rcases ge_r (p:=obF (shG n f)) hl hn with ⟨c1,w1⟩ | ⟨c1,w1⟩ <;> rcases ge_r (p:=mbF (shG n f)) hl hn with ⟨c2,w2⟩ | ⟨c2,w2⟩
    · have w1:wr .i64 (iadd (thF n (shG n f) b) 1) = _:=w1
      have w2:wr .i64 (iadd (loF n (shG n f) b) 1) = _:=w2
      have h3:=rf15tt M _ a n f b (ofNat (rN (obF (shG n f)) n b)) (ofNat (rN (mbF (shG n f)) n b)) (thF n (shG n f)) (loF n (shG n f)) (fun i=>evV (upX n (shG n f) b i)) (fun _=>-1) (ofNat (cntB (fun k=>ieq (thF n (shG n f) k) (thF n (shG n f) b)) b)) j (ofNat_lt hl) (ofNat_0 b) (decide_eq_true hl) (ap_ok (by omega)) (ap_ok (by omega)) c1 c2 (isP_true (hi _))
      have h4:roundT (body15 M) (lp15 a n f) (st15 a n f b (ofNat (rN (obF (shG n f)) n b)) (ofNat (rN (mbF (shG n f)) n b)) (thF n (shG n f)) (loF n (shG n f)) (fun i=>evV (upX n (shG n f) b i)) (fun _=>-1) j) = _:=roundT_le (l:=lp15 a n f) (evalC_le (Γ:=⟨call15,M,Gl⟩) (onP_le hMM hMM) (loopBody Try.f15 0) 0 (st15 a n f b (ofNat (rN (obF (shG n f)) n b)) (ofNat (rN (mbF (shG n f)) n b)) (thF n (shG n f)) (loF n (shG n f)) (fun i=>evV (upX n (shG n f) b i)) (fun _=>-1) j)) h3
      rw [iter_round h4,goOn_nm,succ_wr hl (by omega),hx,push_const]
      rw [w1,w2]
      exact next
    · have w1:wr .i64 (iadd (thF n (shG n f) b) 1) = _:=w1
      have h3:=rf15tf M _ a n f b (ofNat (rN (obF (shG n f)) n b)) (ofNat (rN (mbF (shG n f)) n b)) (thF n (shG n f)) (loF n (shG n f)) (fun i=>evV (upX n (shG n f) b i)) (fun _=>-1) (ofNat (cntB (fun k=>ieq (thF n (shG n f) k) (thF n (shG n f) b)) b)) j (ofNat_lt hl) (ofNat_0 b) (decide_eq_true hl) (ap_ok (by omega)) (ap_ok (by omega)) c1 c2 (isP_true (hi _))
      have h4:roundT (body15 M) (lp15 a n f) (st15 a n f b (ofNat (rN (obF (shG n f)) n b)) (ofNat (rN (mbF (shG n f)) n b)) (thF n (shG n f)) (loF n (shG n f)) (fun i=>evV (upX n (shG n f) b i)) (fun _=>-1) j) = _:=roundT_le (l:=lp15 a n f) (evalC_le (Γ:=⟨call15,M,Gl⟩) (onP_le hMM hMM) (loopBody Try.f15 0) 0 (st15 a n f b (ofNat (rN (obF (shG n f)) n b)) (ofNat (rN (mbF (shG n f)) n b)) (thF n (shG n f)) (loF n (shG n f)) (fun i=>evV (upX n (shG n f) b i)) (fun _=>-1) j)) h3
      rw [iter_round h4,goOn_nm,succ_wr hl (by omega),hx,push_const]
      rw [w1,w2]
      exact next
    · have w2:wr .i64 (iadd (loF n (shG n f) b) 1) = _:=w2
      have h3:=rf15ft M _ a n f b (ofNat (rN (obF (shG n f)) n b)) (ofNat (rN (mbF (shG n f)) n b)) (thF n (shG n f)) (loF n (shG n f)) (fun i=>evV (upX n (shG n f) b i)) (fun _=>-1) (ofNat (cntB (fun k=>ieq (thF n (shG n f) k) (thF n (shG n f) b)) b)) j (ofNat_lt hl) (ofNat_0 b) (decide_eq_true hl) (ap_ok (by omega)) (ap_ok (by omega)) c1 c2 (isP_true (hi _))
      have h4:roundT (body15 M) (lp15 a n f) (st15 a n f b (ofNat (rN (obF (shG n f)) n b)) (ofNat (rN (mbF (shG n f)) n b)) (thF n (shG n f)) (loF n (shG n f)) (fun i=>evV (upX n (shG n f) b i)) (fun _=>-1) j) = _:=roundT_le (l:=lp15 a n f) (evalC_le (Γ:=⟨call15,M,Gl⟩) (onP_le hMM hMM) (loopBody Try.f15 0) 0 (st15 a n f b (ofNat (rN (obF (shG n f)) n b)) (ofNat (rN (mbF (shG n f)) n b)) (thF n (shG n f)) (loF n (shG n f)) (fun i=>evV (upX n (shG n f) b i)) (fun _=>-1) j)) h3
      rw [iter_round h4,goOn_nm,succ_wr hl (by omega),hx,push_const]
      rw [w1,w2]
      exact next
    · have h3:=rf15ff M _ a n f b (ofNat (rN (obF (shG n f)) n b)) (ofNat (rN (mbF (shG n f)) n b)) (thF n (shG n f)) (loF n (shG n f)) (fun i=>evV (upX n (shG n f) b i)) (fun _=>-1) (ofNat (cntB (fun k=>ieq (thF n (shG n f) k) (thF n (shG n f) b)) b)) j (ofNat_lt hl) (ofNat_0 b) (decide_eq_true hl) (ap_ok (by omega)) (ap_ok (by omega)) c1 c2 (isP_true (hi _))
      have h4:roundT (body15 M) (lp15 a n f) (st15 a n f b (ofNat (rN (obF (shG n f)) n b)) (ofNat (rN (mbF (shG n f)) n b)) (thF n (shG n f)) (loF n (shG n f)) (fun i=>evV (upX n (shG n f) b i)) (fun _=>-1) j) = _:=roundT_le (l:=lp15 a n f) (evalC_le (Γ:=⟨call15,M,Gl⟩) (onP_le hMM hMM) (loopBody Try.f15 0) 0 (st15 a n f b (ofNat (rN (obF (shG n f)) n b)) (ofNat (rN (mbF (shG n f)) n b)) (thF n (shG n f)) (loF n (shG n f)) (fun i=>evV (upX n (shG n f) b i)) (fun _=>-1) j)) h3
      rw [iter_round h4,goOn_nm,succ_wr hl (by omega),hx,push_const]
      rw [w1,w2]
      exact next
def lnR (n:Nat) (g:Nat->E6) (b k:Nat):Nat:=if k < b then lnN (mbF g) (wrF g) n k else 0
def coR (n:Nat) (g:Nat->E6) (b k q:Nat):Int:=if k < b ∧ q < lnN (mbF g) (wrF g) n k then ofNat (coN (mbF g) (wrF g) n k q) else 0
theorem lnR_push (n:Nat) (g:Nat->E6) (b:Nat):(fun i=>sel (nbeq i b) (wcN (wrF g) n (stN (mbF g) n b) (lenN (mbF g) n (stN (mbF g) n b))) (lnR n g b i)) = lnR n g (b+1):=by
  funext i
  unfold lnR
  by_cases hi:i = b
  · subst hi
    rw [show nbeq i i = true from Nat.beq_refl _,if_pos (Nat.lt_succ_self _)]
    rfl
  · rw [show nbeq i b = false from nbeq_ne hi]
    by_cases h:i < b
    · rw [if_pos h,if_pos (by omega)]; rfl
    · rw [if_neg h,if_neg (by omega)]; rfl
theorem coR_push {n:Nat} {g:Nat->E6} {b:Nat} (hb:b < kkN n g):(fun i i_1=>setM (fun i_2 i_3=>iV (coR n g b i_2 i_3)) b (fun i_2=>iV (wvF n g (stN (mbF g) n b) (lenN (mbF g) n (stN (mbF g) n b)) i_2)) i i_1) = fun i q=>iV (coR n g (b+1) i q):=by
  funext i q
  unfold setM
  rw [vifS_eq]
  have hlo:loN n g (stN (mbF g) n b) = b:=(stN_spec hb).2.2.1
  unfold coR wvF
  rw [hlo]
  by_cases hi:i = b
  · subst hi
    rw [show nbeq i i = true from Nat.beq_refl _]
    show iV _ = iV _
    by_cases hq:q < wcN (wrF g) n (stN (mbF g) n i) (lenN (mbF g) n (stN (mbF g) n i))
    · rw [if_pos hq,if_pos ⟨Nat.lt_succ_self _,hq⟩]
    · rw [if_neg hq,if_neg (fun h=>hq h.2)]
  · rw [show nbeq i b = false from nbeq_ne hi]
    show iV _ = iV _
    by_cases h:i < b ∧ q < lnN (mbF g) (wrF g) n i
    · rw [if_pos h,if_pos ⟨by omega,h.2⟩]
    · rw [if_neg h,if_neg (fun h'=>h ⟨by omega,h'.2⟩)]
def hpE (a:Int) (n:Nat) (f:Nat->E6) (th lo:Nat->Int) (tt:Int) (b:Nat):List Blk:=[(.cells [(iV 0),.nilS,.nilS,(iV 0),(iV 0),.nilS,.nilS]),(.row 44 6 n (fun i=>eV (shG n f i))),(.row 3 1 n (fun i=>iV (th i))),(.row 3 1 n (fun i=>iV (lo i))),(.cells [(iV a),(.ref 1),(.ref 5),(iV tt),(iV (ofNat (kkN n (shG n f)))),(.ref 6),(.jref 7)]),(.row 40 5 n (fun i=>evV (evF n (shG n f) (dnF n (shG n f) (loN n (shG n f)) b 0) i))),(.row 3 1 n (fun i=>iV (rfF n (shG n f) (dnF n (shG n f) (loN n (shG n f)) b 0) i))),(.jag (Jag.mk 25 1 b (fun _=>.und) 0 3 1 (fun _=>true) (lnR n (shG n f) b) (fun i q=>iV (coR n (shG n f) b i q))))]
def hpE' (a:Int) (n:Nat) (f:Nat->E6) (th lo:Nat->Int) (tt:Int) (b:Nat):List Blk:=[(.cells [(iV 0),.nilS,.nilS,(iV 0),(iV 0),.nilS,.nilS]),(.row 44 6 n (fun i=>eV (shG n f i))),(.row 3 1 n (fun i=>iV (th i))),(.row 3 1 n (fun i=>iV (lo i))),(.cells [(iV a),(.ref 1),(.ref 5),(iV tt),(iV (ofNat (kkN n (shG n f)))),(.ref 6),.und]),(.row 40 5 n (fun i=>evV (evF n (shG n f) (dnF n (shG n f) (loN n (shG n f)) b 0) i))),(.row 3 1 n (fun i=>iV (rfF n (shG n f) (dnF n (shG n f) (loN n (shG n f)) b 0) i))),(.jag (Jag.mk 25 1 b (fun _=>.und) 0 3 1 (fun _=>true) (lnR n (shG n f) b) (fun i q=>iV (coR n (shG n f) b i q))))]
def aggE (a:Int) (n:Nat) (f:Nat->E6) (tt:Int):V:=.agg [iV a,.ref 1,.ref 5,iV tt,iV (ofNat (kkN n (shG n f))),.ref 6,.jref 7]
def restE (a:Int) (n:Nat) (f:Nat->E6) (tt:Int):List Blk:=[.dead,(.cells [iV a,.ref 1,.ref 5,iV tt,iV (ofNat (kkN n (shG n f))),.ref 6,.jref 7]),(.cells [iV a,.ref 1,.ref 5,iV tt,iV (ofNat (kkN n (shG n f))),.ref 6,.jref 7]),.dead,.dead]
theorem call15_59 (vs:List V) (st:St):call15 59 vs st = inlF tab (cxZ Gl tb59 zs59 lps59) Try.f59 vs st:=by kernel_rfl
theorem live_same2 (q:Nat):(fun i=>sel (nbeq i q) true true) = fun _=>true:=by
  funext i
  cases nbeq i q <;> rfl
theorem ent59_eq (a:Int) (n k kk:Nat) (g:Nat->E6) (th lo:Nat->Int) (tt:Int) (c0:Nat->V) (x0:Nat->Ev5) (r0:Nat->Int) (ln:Nat->Nat) (co:Nat->Nat->Int) (ts:List V):fillS (ent59 a n k kk g th lo tt c0 x0 r0 ln co ts) [(11,iV 0)] = st59 a n k kk g th lo tt c0 x0 r0 ln co ts 0 0 (firstI n g x0 (ofNat k)) (-1) x0 r0 (fun _=>0) (fun i=>nth (ent59 a n k kk g th lo tt c0 x0 r0 ln co ts).t i):=by kernel_rfl
theorem wvF_0 (n:Nat) (g:Nat->E6) (z:Nat):wvF n g z 0 = fun _=>0:=by
  funext q
  unfold wvF
  rw [show wcN (wrF g) n z 0 = 0 from rfl,if_neg (Nat.not_lt_zero _)]
theorem call59 (a:Int) (n:Nat) (f:Nat->E6) (hn:n <= 16) (b:Nat) (th lo:Nat->Int) (tt:Int) (ts:List V) (hb:b < kkN n (shG n f)):∃ F,Simple12 F ∧
    (call15 59 [aggE a n f tt,nV b] ⟨ts,hpE a n f th lo tt b⟩).sem = some (aggE a n f tt,.all ⟨ts.map F,hpE' a n f th lo tt (b+1) ++ restE a n f tt⟩):=by
  obtain ⟨hz,hst,hlo,_⟩:=stN_spec hb
  have hlo:loN n (shG n f) (stN (mbF (shG n f)) n b) = b:=hlo
  have hL:=loopsZ_le zs59 lps59
  have hrun:=run59 a n (stN (mbF (shG n f)) n b) (shG n f) th lo tt (fun _=>.und) (evF n (shG n f) (dnF n (shG n f) (loN n (shG n f)) b 0)) (rfF n (shG n f) (dnF n (shG n f) (loN n (shG n f)) b 0)) (lnR n (shG n f) b) (coR n (shG n f) b) hz hst hn (lenN (mbF (shG n f)) n (stN (mbF (shG n f)) n b)) 0 17 (Nat.zero_add _).symm (by have:=(len_spec hz hst).2.1; omega)
  rw [hlo] at hrun
  obtain ⟨F,hF,h1⟩:=hrun
  refine ⟨_,(((hF.comp (simple12_kill 11)).comp (simple12_kill 12)).comp (simple12_kill 7)),?_⟩
  have hp:(loopsZ zs59 lps59 0 (body59 (onP 0 (isP (loopsZ zs59 lps59) 0 (en59e a n b (kkN n (shG n f)) (shG n f) th lo tt (fun _=>.und) (evF n (shG n f) (dnF n (shG n f) (loN n (shG n f)) b 0)) (rfF n (shG n f) (dnF n (shG n f) (loN n (shG n f)) b 0)) (lnR n (shG n f) b) (coR n (shG n f) b) (ts.map F) 0 (wcN (wrF (shG n f)) n (stN (mbF (shG n f)) n b) (lenN (mbF (shG n f)) n (stN (mbF (shG n f)) n b))) 0 0 (evF n (shG n f) (dnF n (shG n f) (loN n (shG n f)) (b+1) 0)) (rfF n (shG n f) (dnF n (shG n f) (loN n (shG n f)) (b+1) 0)) (wvF n (shG n f) (stN (mbF (shG n f)) n b) (lenN (mbF (shG n f)) n (stN (mbF (shG n f)) n b))))) (en59e a n b (kkN n (shG n f)) (shG n f) th lo tt (fun _=>.und) (evF n (shG n f) (dnF n (shG n f) (loN n (shG n f)) b 0)) (rfF n (shG n f) (dnF n (shG n f) (loN n (shG n f)) b 0)) (lnR n (shG n f) b) (coR n (shG n f) b) (ts.map F) 0 (wcN (wrF (shG n f)) n (stN (mbF (shG n f)) n b) (lenN (mbF (shG n f)) n (stN (mbF (shG n f)) n b))) 0 0 (evF n (shG n f) (dnF n (shG n f) (loN n (shG n f)) (b+1) 0)) (rfF n (shG n f) (dnF n (shG n f) (loN n (shG n f)) (b+1) 0)) (wvF n (shG n f) (stN (mbF (shG n f)) n b) (lenN (mbF (shG n f)) n (stN (mbF (shG n f)) n b)))) (loopsZ zs59 lps59))) (ent59 a n b (kkN n (shG n f)) (shG n f) th lo tt (fun _=>.und) (evF n (shG n f) (dnF n (shG n f) (loN n (shG n f)) b 0)) (rfF n (shG n f) (dnF n (shG n f) (loN n (shG n f)) b 0)) (lnR n (shG n f) b) (coR n (shG n f) b) ts)).sem = some (en59e a n b (kkN n (shG n f)) (shG n f) th lo tt (fun _=>.und) (evF n (shG n f) (dnF n (shG n f) (loN n (shG n f)) b 0)) (rfF n (shG n f) (dnF n (shG n f) (loN n (shG n f)) b 0)) (lnR n (shG n f) b) (coR n (shG n f) b) (ts.map F) 0 (wcN (wrF (shG n f)) n (stN (mbF (shG n f)) n b) (lenN (mbF (shG n f)) n (stN (mbF (shG n f)) n b))) 0 0 (evF n (shG n f) (dnF n (shG n f) (loN n (shG n f)) (b+1) 0)) (rfF n (shG n f) (dnF n (shG n f) (loN n (shG n f)) (b+1) 0)) (wvF n (shG n f) (stN (mbF (shG n f)) n b) (lenN (mbF (shG n f)) n (stN (mbF (shG n f)) n b)))):=by
    show (iterT _ _ 17 (fillS (ent59 a n b (kkN n (shG n f)) (shG n f) th lo tt (fun _=>.und) (evF n (shG n f) (dnF n (shG n f) (loN n (shG n f)) b 0)) (rfF n (shG n f) (dnF n (shG n f) (loN n (shG n f)) b 0)) (lnR n (shG n f) b) (coR n (shG n f) b) ts) [(11,iV 0)])).sem = _
    rw [ent59_eq,firstI_ev hb]
    have h2:=h1 (onP 0 (isP (loopsZ zs59 lps59) 0 (en59e a n b (kkN n (shG n f)) (shG n f) th lo tt (fun _=>.und) (evF n (shG n f) (dnF n (shG n f) (loN n (shG n f)) b 0)) (rfF n (shG n f) (dnF n (shG n f) (loN n (shG n f)) b 0)) (lnR n (shG n f) b) (coR n (shG n f) b) (ts.map F) 0 (wcN (wrF (shG n f)) n (stN (mbF (shG n f)) n b) (lenN (mbF (shG n f)) n (stN (mbF (shG n f)) n b))) 0 0 (evF n (shG n f) (dnF n (shG n f) (loN n (shG n f)) (b+1) 0)) (rfF n (shG n f) (dnF n (shG n f) (loN n (shG n f)) (b+1) 0)) (wvF n (shG n f) (stN (mbF (shG n f)) n b) (lenN (mbF (shG n f)) n (stN (mbF (shG n f)) n b))))) (en59e a n b (kkN n (shG n f)) (shG n f) th lo tt (fun _=>.und) (evF n (shG n f) (dnF n (shG n f) (loN n (shG n f)) b 0)) (rfF n (shG n f) (dnF n (shG n f) (loN n (shG n f)) b 0)) (lnR n (shG n f) b) (coR n (shG n f) b) (ts.map F) 0 (wcN (wrF (shG n f)) n (stN (mbF (shG n f)) n b) (lenN (mbF (shG n f)) n (stN (mbF (shG n f)) n b))) 0 0 (evF n (shG n f) (dnF n (shG n f) (loN n (shG n f)) (b+1) 0)) (rfF n (shG n f) (dnF n (shG n f) (loN n (shG n f)) (b+1) 0)) (wvF n (shG n f) (stN (mbF (shG n f)) n b) (lenN (mbF (shG n f)) n (stN (mbF (shG n f)) n b)))) (loopsZ zs59 lps59)) ts ts (fun i=>nth (ent59 a n b (kkN n (shG n f)) (shG n f) th lo tt (fun _=>.und) (evF n (shG n f) (dnF n (shG n f) (loN n (shG n f)) b 0)) (rfF n (shG n f) (dnF n (shG n f) (loN n (shG n f)) b 0)) (lnR n (shG n f) b) (coR n (shG n f) b) ts).t i)
    rw [wvF_0] at h2
    exact h2
  have hkn:kkN n (shG n f) <= n:=cntB_le _ _
  have hw:=ww59 (loopsZ zs59 lps59) (isP (loopsZ zs59 lps59) 0 (en59e a n b (kkN n (shG n f)) (shG n f) th lo tt (fun _=>.und) (evF n (shG n f) (dnF n (shG n f) (loN n (shG n f)) b 0)) (rfF n (shG n f) (dnF n (shG n f) (loN n (shG n f)) b 0)) (lnR n (shG n f) b) (coR n (shG n f) b) (ts.map F) 0 (wcN (wrF (shG n f)) n (stN (mbF (shG n f)) n b) (lenN (mbF (shG n f)) n (stN (mbF (shG n f)) n b))) 0 0 (evF n (shG n f) (dnF n (shG n f) (loN n (shG n f)) (b+1) 0)) (rfF n (shG n f) (dnF n (shG n f) (loN n (shG n f)) (b+1) 0)) (wvF n (shG n f) (stN (mbF (shG n f)) n b) (lenN (mbF (shG n f)) n (stN (mbF (shG n f)) n b))))) a n b (kkN n (shG n f)) (shG n f) th lo tt (fun _=>.und) (evF n (shG n f) (dnF n (shG n f) (loN n (shG n f)) b 0)) (rfF n (shG n f) (dnF n (shG n f) (loN n (shG n f)) b 0)) (lnR n (shG n f) b) (coR n (shG n f) b) ts (ts.map F) 0 (wcN (wrF (shG n f)) n (stN (mbF (shG n f)) n b) (lenN (mbF (shG n f)) n (stN (mbF (shG n f)) n b))) 0 0 (evF n (shG n f) (dnF n (shG n f) (loN n (shG n f)) (b+1) 0)) (rfF n (shG n f) (dnF n (shG n f) (loN n (shG n f)) (b+1) 0)) (wvF n (shG n f) (stN (mbF (shG n f)) n b) (lenN (mbF (shG n f)) n (stN (mbF (shG n f)) n b)))
    (by simp [jagsLive]) (allN_iff.2 fun i _=>allN_iff.2 fun _ _=>rfl) (decide_eq_true (by omega)) (ap_ok (by omega)) (isP_true hp)
  have e:=evalF_leC (τ:=tab) (G:=Gl) (fn:=Try.f59) (CLe.refl (callT tb59)) (onP_le (k:=0) hL hL) _ hw
  rw [push_const,live_same2,lnR_push,coR_push hb,kills_map,kills_map,kills_map,List.map_map,List.map_map,List.map_map] at e
  rw [call15_59]
  exact inlF_sem (st:=⟨ts,hpE a n f th lo tt b⟩) (Γ:=cxZ Gl tb59 zs59 lps59) e rfl
def slV (w4 w15 w19:V) (u:Nat->V):List V:=(jsV 132 0 u [(4,w4),(15,w15),(19,w19)])
def ts15 (a:Int) (n:Nat) (f:Nat->E6) (tt:Int) (b kk:Nat) (j:Nat->V):List V:=(jsV 132 0 j [(4,(.ptr 0 0)),(15,(.ptr 4 0)),(19,(nV b)),(122,(nV b)),(123,(.ptr 4 4)),(124,(nV kk)),(125,(bV (ilt (ofNat b) (ofNat kk)))),(128,(.agg [(iV a),(.ref 1),(.ref 5),(iV tt),(nV kk),(.ref 6),(.jref 7)])),(129,(nV b))])
theorem ts15_eq (a:Int) (n:Nat) (f:Nat->E6) (tt:Int) (b kk:Nat) (j:Nat->V):(jsV 132 0 j [(4,(.ptr 0 0)),(15,(.ptr 4 0)),(19,(nV b)),(122,(nV b)),(123,(.ptr 4 4)),(124,(nV kk)),(125,(bV (ilt (ofNat b) (ofNat kk)))),(128,(.agg [(iV a),(.ref 1),(.ref 5),(iV tt),(nV kk),(.ref 6),(.jref 7)])),(129,(nV b))]) = ts15 a n f tt b kk j:=rfl
theorem ts15_map (a:Int) (n:Nat) (f:Nat->E6) (tt:Int) (b kk:Nat) (j:Nat->V) (F:V->V):(ts15 a n f tt b kk j).map F = slV (F (.ptr 0 0)) (F (.ptr 4 0)) (F (nV b)) (fun i=>F (nth (ts15 a n f tt b kk j) i)):=by kernel_rfl
theorem run15w (L:LT) (a:Int) (n:Nat) (f:Nat->E6) (hn:n <= 16) (th lo:Nat->Int) (tt:Int):∀ (e b:Nat) (j:Nat->V) (q:Nat),kkN n (shG n f) = b+e->e < q ->
    (iterT (body15_4 L) (lp15_4 a n f) q (st15_4 a n f b (kkN n (shG n f)) tt th lo (evF n (shG n f) (dnF n (shG n f) (loN n (shG n f)) b 0)) (rfF n (shG n f) (dnF n (shG n f) (loN n (shG n f)) b 0)) (lnR n (shG n f) b) (coR n (shG n f) b) j)).sem = some (en15_4e a n f (kkN n (shG n f)) (kkN n (shG n f)) tt th lo (evF n (shG n f) (dnF n (shG n f) (loN n (shG n f)) (kkN n (shG n f)) 0)) (rfF n (shG n f) (dnF n (shG n f) (loN n (shG n f)) (kkN n (shG n f)) 0)) (lnR n (shG n f) (kkN n (shG n f))) (coR n (shG n f) (kkN n (shG n f))))
  | 0,b,j,q+1,h,_=>by
    have h:kkN n (shG n f) = b:=h
    rw [h]
    rw [show body15_4 L = evalC tab ⟨call15,L,Gl⟩ (loopBody Try.f15 4) 4 from rfl]
    exact iter_round (rk15e L a n f b b tt th lo (evF n (shG n f) (dnF n (shG n f) (loN n (shG n f)) b 0)) (rfF n (shG n f) (dnF n (shG n f) (loN n (shG n f)) b 0)) (lnR n (shG n f) b) (coR n (shG n f) b) j (ofNat_ge (Nat.le_refl _)))
  | e+1,b,j,q+1,h,h2=>by
    have hl:b < kkN n (shG n f):=by omega
    have hkn:kkN n (shG n f) <= n:=cntB_le _ _
    have next:=fun j=>run15w L a n f hn th lo tt e (b+1) j q (by omega) (by omega)
    obtain ⟨F,hF,hc⟩:=call59 a n f hn b th lo tt (ts15 a n f tt b (kkN n (shG n f)) j) hl
    have hts:(ts15 a n f tt b (kkN n (shG n f)) j).map F = sl15_4 b (fun i=>F (nth (ts15 a n f tt b (kkN n (shG n f)) j) i)):=by
      rw [ts15_map,hF.2 0 0 (by omega),hF.2 4 0 (by omega)]
      rw [show F (nV b) = nV b from hF.1 _ _]
      rfl
    rw [hts] at hc
    have hr:=fun q59=>rk15w noLp a n f b (kkN n (shG n f)) tt th lo (evF n (shG n f) (dnF n (shG n f) (loN n (shG n f)) b 0)) (rfF n (shG n f) (dnF n (shG n f) (loN n (shG n f)) b 0)) (lnR n (shG n f) b) (coR n (shG n f) b) (fun i=>F (nth (ts15 a n f tt b (kkN n (shG n f)) j) i)) (evF n (shG n f) (dnF n (shG n f) (loN n (shG n f)) (b+1) 0)) (rfF n (shG n f) (dnF n (shG n f) (loN n (shG n f)) (b+1) 0)) (lnR n (shG n f) (b+1)) (coR n (shG n f) (b+1)) (fun _=>true) (fun _=>.und) (restE a n f tt) q59 j (ofNat_lt hl)
    rw [ts15_eq a n f] at hr
    have hr:=hr (isC call15 59 (aggE a n f tt,.all ⟨sl15_4 b (fun i=>F (nth (ts15 a n f tt b (kkN n (shG n f)) j) i)),hpE' a n f th lo tt (b+1) ++ restE a n f tt⟩)) (isC_true hc)
    have hr':=roundT_le (f':=body15_4 L) (l:=lp15_4 a n f) (evalC_leC (τ:=tab) (G:=Gl) (onC_le (CLe.refl call15)) (noLp_le L) (loopBody Try.f15 4) 4 (st15_4 a n f b (kkN n (shG n f)) tt th lo (evF n (shG n f) (dnF n (shG n f) (loN n (shG n f)) b 0)) (rfF n (shG n f) (dnF n (shG n f) (loN n (shG n f)) b 0)) (lnR n (shG n f) b) (coR n (shG n f) b) j)) hr
    rw [iter_round hr',goOn_nm,succ_wr hl (by omega)]
    exact next (fun _=>.und)
theorem isPle2 {L N:LT} (hL:LLe L L) (hN:LLe N N) (k:Nat) (r:Ex × St):LLe (onP k (isP L k r) r N) (onP k (isP L k r) r N):=fun id f f' st hf r' hr=>by
  unfold onP at hr ⊢
  cases hk:Nat.beq id k with
  | true =>
    rw [hk] at hr
    obtain ⟨h1,h2⟩:=sem_br_fail hr
    unfold isP at h1
    have h1:=@of_decide_eq_true _ (Classical.propDecidable _) h1
    have h3:isP L k r f' st = true:=isP_true (hL k f f' st hf _ h1)
    show sel (isP L k r f' st) _ _ = _
    rw [h3]
    exact h2
  | false =>
    rw [hk] at hr
    exact hN id f f' st hf _ hr
def zs15:List (Nat × List (Nat × V)):=[(0,[(5,evV ⟨0,0,0,0,0⟩),(6,iV (-1))]),(4,[(7,iV 0)])]
def lps15 (a:Int) (n:Nat) (f:Nat->E6):List (Nat × Lp):=[(0,lp15 a n f),(2,lp15_2 a n f),(4,lp15_4 a n f)]
noncomputable def cx15 (a:Int) (n:Nat) (f:Nat->E6):Cx:=⟨call15,loopsZ zs15 (lps15 a n f),Gl⟩
theorem fill15 (a:Int) (n:Nat) (f:Nat->E6):fillS (ent15 a n f) [(5,evV ⟨0,0,0,0,0⟩),(6,iV (-1))] = st15 a n f 0 0 0 (thF n (shG n f)) (loF n (shG n f)) (fun _=>evV ⟨0,0,0,0,0⟩) (fun _=>-1) (fun i=>nth (ent15 a n f).t i):=by kernel_rfl
theorem fill15_4 (a:Int) (n:Nat) (f:Nat->E6) (tt:Int) (kk:Nat) (th lo:Nat->Int) (x:Nat->Ev5) (r:Nat->Int):fillS (ent15_4 a n f tt kk th lo x r) [(7,iV 0)] = st15_4 a n f 0 kk tt th lo x r (fun _=>0) (fun _ _=>0) (fun i=>nth (ent15_4 a n f tt kk th lo x r).t i):=by kernel_rfl
theorem lnR_0 (n:Nat) (g:Nat->E6):lnR n g 0 = fun _=>0:=by funext i; simp [lnR]
theorem coR_0 (n:Nat) (g:Nat->E6):coR n g 0 = fun _ _=>0:=by funext i q; simp [coR]
theorem dnR_0 (n:Nat) (g:Nat->E6):dnF n g (loN n g) 0 0 = fun _=>false:=by
  funext j
  unfold dnF
  rw [done_0]
  simp
theorem upX_allR (n:Nat) (g:Nat->E6):upX n g n = evF n g (dnF n g (loN n g) 0 0):=by
  rw [dnR_0,upX_all,dn_00]
def rawR (n:Nat) (g:Nat->E6):List Blk:=[.row 44 6 n (fun i=>eV (g i)),.row 40 5 n (fun i=>evV (evF n g (dnF n g (loN n g) (kkN n g) 0) i)),.row 3 1 n (fun i=>iV (rfF n g (dnF n g (loN n g) (kkN n g) 0) i)),
  .jag ⟨25,1,kkN n g,fun _=>.und,0,3,1,fun _=>true,lnR n g (kkN n g),fun k i=>iV (coR n g (kkN n g) k i)⟩]
theorem rawR_le {n:Nat} {g:Nat->E6} (hk:0 < kkN n g):RowsLE (rawR n g) (shapeH n g):=by
  have hd:∀ i,i < n->dnF n g (loN n g) (kkN n g) 0 i = true:=fun i hi=>by
    unfold dnF
    rw [decide_eq_true hi,done_all]
    · rfl
    · exact lo_lt hi hk
  refine .cons (fun _ _=>rfl) (.cons (fun i hi=>?_) (.cons (fun i hi=>?_) (.consB (.jag (fun _ _=>.inr rfl) (fun _ _=>rfl) (fun k hk'=>?_) (fun k hk' q hq=>?_)) (.refl []))))
  · rw [evF_in hi,evF_in hi,hd i hi]
  · unfold rfF
    rw [hd i hi]
  · have hk':k < kkN n g:=hk'
    show lnN _ _ n k = lnR n g (kkN n g) k
    unfold lnR
    rw [if_pos hk']
  · have hk':k < kkN n g:=hk'
    have hq:q < lnR n g (kkN n g) k:=hq
    unfold lnR at hq
    rw [if_pos hk'] at hq
    show iV _ = iV _
    unfold coR
    rw [if_pos ⟨hk',hq⟩]
theorem told15 {a:Int} {n:Nat} {f:Nat->E6} (h8:fitN n = true) (hc:ieq (chkE a n f) 0 = true) :
    (finF (evalF tab (cx15 a n f) Try.f15 [iV a,edgesV n f] [])).sem = some (.tup [shapeV a n (shG n f),iV 0,iV 0],rawR n (shG n f)):=by
  have hy:=isCycle_of hc
  have hlo:=hy.lo
  have hhi:=hy.hi
  have hL:=loopsZ_le zs15 (lps15 a n f)
  have hg:=shG_cycle hy
  have hko:rN (obF (shG n f)) n n = ttN n (shG n f):=rN_all hg.outer
  have hkm:rN (mbF (shG n f)) n n = kkN n (shG n f):=rN_all hg.moves
  have hkl:kkN n (shG n f) <= n:=cntB_le _ _
  unfold cx15
  have hQ:=isPle2 hL (isPle2 hL hL 4 (en15_4e a n f (kkN n (shG n f)) (kkN n (shG n f)) (ofNat (ttN n (shG n f))) (thF n (shG n f)) (loF n (shG n f)) (evF n (shG n f) (dnF n (shG n f) (loN n (shG n f)) (kkN n (shG n f)) 0)) (rfF n (shG n f) (dnF n (shG n f) (loN n (shG n f)) (kkN n (shG n f)) 0)) (lnR n (shG n f) (kkN n (shG n f))) (coR n (shG n f) (kkN n (shG n f))))) 0 (en15e a n f n (ofNat (ttN n (shG n f))) (ofNat (kkN n (shG n f))) (thF n (shG n f)) (loF n (shG n f)) (fun i=>evV (upX n (shG n f) n i)) (fun _=>-1))
  refine told_le (onP_le (onP_le hL hL) hL) _ (w15o _ _ _ a n f (ofNat (ttN n (shG n f))) (kkN n (shG n f)) (thF n (shG n f)) (loF n (shG n f)) (upX n (shG n f) n) (fun _=>-1)
    (evF n (shG n f) (dnF n (shG n f) (loN n (shG n f)) (kkN n (shG n f)) 0)) (rfF n (shG n f) (dnF n (shG n f) (loN n (shG n f)) (kkN n (shG n f)) 0)) (lnR n (shG n f) (kkN n (shG n f))) (coR n (shG n f) (kkN n (shG n f))) h8 hc (cycB_iff.2 ⟨a,hy⟩) hg.may rowsBare_iV (isP_true ?_) (isP_true ?_))
  · show (iterT _ (lp15 a n f) (n+1) (fillS _ [(5,evV ⟨0,0,0,0,0⟩),(6,iV (-1))])).sem = _
    rw [fill15]
    have h:=fun M hM m2 j=>run15 M hM a n f m2 hhi n 0 j (n+1) (by omega) (by omega)
    rw [upX_0,hko,hkm] at h
    exact h _ hQ (fun g st=>rfl) _
  · show (iterT _ (lp15_4 a n f) 17 (fillS _ [(7,iV 0)])).sem = _
    rw [fill15_4]
    have h:=fun L j=>run15w L a n f hhi (thF n (shG n f)) (loF n (shG n f)) (ofNat (ttN n (shG n f))) (kkN n (shG n f)) 0 j 17 (by omega) (by omega)
    rw [<- upX_allR,lnR_0,coR_0,show rfF n (shG n f) (dnF n (shG n f) (loN n (shG n f)) 0 0) = fun _=>-1 by rw [dnR_0]; rfl] at h
    exact h _ _
theorem p15:PureC Try.prog Gl 15 ofT:=by
  refine pureC_intro tabOK mixed Try.func15 (by kernel_rfl) (by kernel_rfl) fun vs v h' h=>?_
  unfold ofT at h
  split at h
  · rename_i a u
    obtain ⟨n,f,ha,h1⟩:=apL_some h
    obtain ⟨h8,hq⟩:=sem_br_fail h1
    have hA:ArgLE [iV a,u] [iV a,edgesV n f]:=fun S w cs hv=>by
      obtain ⟨c,l,rfl,q1,d,l',rfl,q2,q3⟩:=hv
      exact ⟨c,_,rfl,q1,d,l',rfl,ha S w d q2,q3⟩
    have hx:CallOK Try.prog (cx15 a n f).base ∧ LoopOK (cx15 a n f):=⟨call15_ok,loopZ_ok rfl⟩
    cases hc:ieq (chkE a n f) 0 with
    | true =>
      rw [hc] at hq
      have:=sem_leaf hq
      simp only [Prod.mk.injEq] at this
      obtain ⟨rfl,rfl⟩:=this
      have hg:=shG_cycle (isCycle_of hc)
      have hm:=hg.moves
      exact ⟨_,cx15 a n f,_,hA,rfl,hx.1,hx.2,told15 h8 hc,rawR_le (by show 0 < cntB (fun k=>movB (shG n f k)) n; omega)⟩
    | false =>
      rw [hc] at hq
      have:=sem_leaf hq
      simp only [Prod.mk.injEq] at this
      obtain ⟨rfl,rfl⟩:=this
      exact ⟨_,cx15 a n f,_,hA,rfl,hx.1,hx.2,w15e _ a n f h8 hc,RowsLE.refl _⟩
  · cases h
end Go.Proofs.Ytjhnfomefcngfaa.Sh
