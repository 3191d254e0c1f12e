/-
  Layer 7: the program's shape of a cycle. No conditions.
-/
import Derived.Test.YtjhnfomefcngfaaCyUa
import Derived.Test.YtjhnfomefcngfaaCyU
namespace Go.Proofs.Ytjhnfomefcngfaa.Sh
open Go.Sy Ed
open Int (ofNat)
set_option maxHeartbeats 1000000
set_option maxRecDepth 4000
noncomputable def tb14:List (Nat × (List V->T (V × List Blk))):=[(50,chkT),(51,canonT),(52,edgeT fun e=>bV (outB e)),(53,metT),(54,edgeT fun e=>bV (movB e))]
theorem tb14_ok:AllPure Try.prog Gl tb14:=.cons p48 <| .cons p65 <| .cons p52 <| .cons p53 <| .cons p54 .nil
def lps55:List (Nat × Lp):=[(0,⟨(bmK 84 0 [0,1,4,5,6,7,23,24]),9,(bmK 84 0 []),9,17⟩)]
noncomputable def call14:FuncId->List V->St->T (V × Res):=callI [(55,inlF tab (cxOf Gl tb55 lps55) Try.f55)] (callT tb14)
theorem call14_ok:CallOK Try.prog ⟨call14,Gl⟩:=callI_ok mixed (.cons rfl tabOK (cx_ok tb55_ok lps55).1 (cx_ok tb55_ok lps55).2 Try.func55 (by kernel_rfl) (by kernel_rfl) .nil) (callT_ok rfl tb14_ok)
theorem w14e (L:LT) (a:Int) (n:Nat) (f:Nat->E6) (h0:fitN n = true) (h1:ieq (chkE a n f) 0 = false):(finF (evalF tab ⟨call14,L,Gl⟩ Try.f14 [iV a,.sl 6 n fun i=>eV (f i)] [])).sem = some ((.tup [(.agg [(iV 0),(.ref 0),(.ref 1),(iV 0),(iV 0),(.ref 2),(.jref 3)]),(iV (chkE a n f)),(iV (chkI a n f))]),[(.row 44 6 0 (fun _=>.und)),(.row 40 5 0 (fun _=>.und)),(.row 3 1 0 (fun _=>.und)),(.jag (Jag.mk 25 1 0 (fun _=>.und) 0 3 1 (fun _=>true) (fun _=>0) (fun _ _=>.und)))]):=by
  exact sem_of_path (ds:=[true,true,true]) (cs:=[(allN n (fun _=>true)),(fitN n),(bnot (ieq (chkE a n f) 0))]) (by kernel_rfl) (by simp only [h0,h1,allN_true] <;> rfl)
def lp14 (a:Int) (n:Nat) (f:Nat->E6):Lp:=⟨(bmK 164 0 [0,4,5,6,9,11,12,39,40]),2,(bmK 164 0 [0,4,5,6,9,11,12]),2,n+1⟩
def st14 (a:Int) (n:Nat) (f:Nat->E6) (b:Nat) (j:Nat->V):St:=⟨(jsV 164 0 j [(0,iV a),(4,.ptr 0 0),(5,iV 0),(6,iV 0),(9,.ref 1),(11,nV n),(12,iV 0),(39,nV n),(40,nV b)]),[(.cells [(iV 0),.nilS,.nilS,(iV 0),(iV 0),.nilS,.nilS]),(.row 44 6 n (fun i=>(eV (canF n f i))))]⟩
def en14x (a:Int) (n:Nat) (f:Nat->E6) (b:Nat):Ex × St:=(.ex 0,⟨(jsV 164 0 (fun _=>.und) [(0,iV a),(4,.ptr 0 0),(5,iV 0),(6,iV 0),(9,.ref 1),(11,nV n),(12,nV b)]),[(.cells [(iV 0),.nilS,.nilS,(iV 0),(iV 0),.nilS,.nilS]),(.row 44 6 n (fun i=>(eV (canF n f i))))]⟩)
noncomputable def body14 (L:LT):St->T (Ex × St):=fun st=>evalC tab ⟨call14,L,Gl⟩ (loopBody Try.f14 0) 0 st
section
variable (L:LT) (a:Int) (n:Nat) (f:Nat->E6) (b:Nat)  (j:Nat->V)
include L a n f b j
theorem rf14n (h0:ilt (ofNat b) (ofNat n) = true) (h13:ile 0 (ofNat b) = true) (h1:nlt b n = true) (h2:outB (canF n f b) = false):roundT (body14 L) (lp14 a n f) (st14 a n f b j) = some (.nm,⟨(jsV 164 0 (fun _=>.und) [(0,(iV a)),(4,(.ptr 0 0)),(5,(iV 0)),(6,(iV 0)),(9,(.ref 1)),(11,(nV n)),(12,(iV 0)),(39,(nV n)),(40,(iV (wr .i64 (iadd (ofNat b) 1))))]),[(.cells [(iV 0),.nilS,.nilS,(iV 0),(iV 0),.nilS,.nilS]),(.row 44 6 n (fun i=>(eV (canF n f i))))]⟩):=by
  exact sem_of_path (ds:=[true,true,true,false]) (cs:=[(ilt (ofNat b) (ofNat n)),(band (ile 0 (ofNat b)) (ilt (ofNat b) (ofNat n))),(nlt b n),(outB (canF n f b))]) (by kernel_rfl) (by simp only [h0,h13,h1,h2] <;> rfl)
theorem rf14t (h0:ilt (ofNat b) (ofNat n) = true) (h14:ile 0 (ofNat b) = true) (h1:nlt b n = true) (h2:outB (canF n f b) = true) (h3:ieq (ofNat n) 0 = false):roundT (body14 L) (lp14 a n f) (st14 a n f b j) = some ((.ex 0),⟨(jsV 164 0 (fun _=>.und) [(0,(iV a)),(4,(.ptr 0 0)),(5,(iV 0)),(6,(iV 0)),(9,(.ref 1)),(11,(nV n)),(12,(iV (itmod (wr .i64 (iadd (ofNat b) 1)) (ofNat n))))]),[(.cells [(iV 0),.nilS,.nilS,(iV 0),(iV 0),.nilS,.nilS]),(.row 44 6 n (fun i=>(eV (canF n f i))))]⟩):=by
  exact sem_of_path (ds:=[true,true,true,true,false]) (cs:=[(ilt (ofNat b) (ofNat n)),(band (ile 0 (ofNat b)) (ilt (ofNat b) (ofNat n))),(nlt b n),(outB (canF n f b)),(ieq (ofNat n) 0)]) (by kernel_rfl) (by simp only [h0,h14,h1,h2,h3] <;> rfl)
end
def jk14 (a:Int) (n:Nat) (f:Nat->E6) :Nat->V:=lkV undefV [(1,(.sl 6 n (fun i=>(eV (f i))))),(7,(iV (chkE a n f))),(8,(iV (chkI a n f))),(10,(iV 0)),(21,(.tup [(iV (chkE a n f)),(iV (chkI a n f))])),(22,(iV a)),(23,(.sl 6 n (fun i=>(eV (f i))))),(24,(.tup [(iV (chkE a n f)),(iV (chkI a n f))])),(25,(iV (chkE a n f))),(26,(iV (chkI a n f))),(27,(iV (chkE a n f))),(28,(bV (bnot (ieq (chkE a n f) 0)))),(32,(.tup [(.ref 1),(iV 0)])),(33,(.sl 6 n (fun i=>(eV (f i))))),(34,(.tup [(.ref 1),(iV 0)])),(35,(.ref 1)),(36,(iV 0)),(37,(.ref 1)),(38,(nV n))]
def lp14_2 (a:Int) (n:Nat) (f:Nat->E6):Lp:=⟨(bmK 164 0 [0,4,5,6,9,11,12,14,55,56]),7,(bmK 164 0 [0,4,5,6,11,14]),7,n+1⟩
def st14_2 (a:Int) (n:Nat) (f:Nat->E6) (q b:Nat) (y:Nat->V) (j:Nat->V):St:=⟨(jsV 164 0 j [(0,iV a),(4,.ptr 0 0),(5,iV 0),(6,iV 0),(9,.ref 1),(11,nV n),(12,nV q),(14,.ptr 2 0),(55,nV n),(56,nV b)]),[(.cells [(iV 0),.nilS,.nilS,(iV 0),(iV 0),.nilS,.nilS]),(.row 44 6 n (fun i=>(eV (canF n f i)))),(.cells [(iV a),(.ref 3),(.ref 4),(iV 0),(iV 0),(.ref 5),(.jref 6)]),(.row 44 6 b y),(.row 40 5 0 (fun _=>.und)),(.row 3 1 0 (fun _=>.und)),(.jag (Jag.mk 25 1 0 (fun _=>.und) 0 3 1 (fun _=>true) (fun _=>0) (fun _ _=>.und)))]⟩
def en14_2e (a:Int) (n:Nat) (f:Nat->E6) (q b:Nat) (y:Nat->V):Ex × St:=(.ex 2,⟨(jsV 164 0 (fun _=>.und) [(0,iV a),(4,.ptr 0 0),(5,iV 0),(6,iV 0),(11,nV n),(14,.ptr 2 0)]),[(.cells [(iV 0),.nilS,.nilS,(iV 0),(iV 0),.nilS,.nilS]),(.row 44 6 n (fun i=>(eV (canF n f i)))),(.cells [(iV a),(.ref 3),(.ref 4),(iV 0),(iV 0),(.ref 5),(.jref 6)]),(.row 44 6 b y),(.row 40 5 0 (fun _=>.und)),(.row 3 1 0 (fun _=>.und)),(.jag (Jag.mk 25 1 0 (fun _=>.und) 0 3 1 (fun _=>true) (fun _=>0) (fun _ _=>.und)))]⟩)
noncomputable def body14_2 (L:LT):St->T (Ex × St):=fun st=>evalC tab ⟨call14,L,Gl⟩ (loopBody Try.f14 2) 2 st
section
variable (L:LT) (a:Int) (n:Nat) (f:Nat->E6) (q b:Nat) (y:Nat->V)  (j:Nat->V)
include L a n f q b y j
theorem rg14e (h0:ilt (ofNat b) (ofNat n) = false):roundT (body14_2 L) (lp14_2 a n f) (st14_2 a n f q b y j) = some ((.ex 2),⟨(jsV 164 0 (fun _=>.und) [(0,(iV a)),(4,(.ptr 0 0)),(5,(iV 0)),(6,(iV 0)),(11,(nV n)),(14,(.ptr 2 0))]),[(.cells [(iV 0),.nilS,.nilS,(iV 0),(iV 0),.nilS,.nilS]),(.row 44 6 n (fun i=>(eV (canF n f i)))),(.cells [(iV a),(.ref 3),(.ref 4),(iV 0),(iV 0),(.ref 5),(.jref 6)]),(.row 44 6 b y),(.row 40 5 0 (fun _=>.und)),(.row 3 1 0 (fun _=>.und)),(.jag (Jag.mk 25 1 0 (fun _=>.und) 0 3 1 (fun _=>true) (fun _=>0) (fun _ _=>.und)))]⟩):=by
  exact sem_of_path (ds:=[false]) (cs:=[(ilt (ofNat b) (ofNat n))]) (by kernel_rfl) (by simp only [h0] <;> rfl)
theorem rg14n (h0:ilt (ofNat b) (ofNat n) = true) (h1:ieq (ofNat n) 0 = false) (h13:band (ile 0 (itmod (wr .i64 (iadd (ofNat q) (ofNat b))) (ofNat n))) (ilt (itmod (wr .i64 (iadd (ofNat q) (ofNat b))) (ofNat n)) (ofNat n)) = true) (h14:nlt (toN (itmod (wr .i64 (iadd (ofNat q) (ofNat b))) (ofNat n))) n = true) (h15:apOK b 1 40 = true):roundT (body14_2 L) (lp14_2 a n f) (st14_2 a n f q b y j) = some (.nm,⟨(jsV 164 0 (fun _=>.und) [(0,(iV a)),(4,(.ptr 0 0)),(5,(iV 0)),(6,(iV 0)),(9,(.ref 1)),(11,(nV n)),(12,(nV q)),(14,(.ptr 2 0)),(55,(nV n)),(56,(iV (wr .i64 (iadd (ofNat b) 1))))]),[(.cells [(iV 0),.nilS,.nilS,(iV 0),(iV 0),.nilS,.nilS]),(.row 44 6 n (fun i=>(eV (canF n f i)))),(.cells [(iV a),(.ref 3),(.ref 4),(iV 0),(iV 0),(.ref 5),(.jref 6)]),(.row 44 6 (nadd b 1) (pushGet b y (eV (canF n f (toN (itmod (wr .i64 (iadd (ofNat q) (ofNat b))) (ofNat n))))))),(.row 40 5 0 (fun _=>.und)),(.row 3 1 0 (fun _=>.und)),(.jag (Jag.mk 25 1 0 (fun _=>.und) 0 3 1 (fun _=>true) (fun _=>0) (fun _ _=>.und)))]⟩):=by
  exact sem_of_path (ds:=[true,false,true,true,true]) (cs:=[(ilt (ofNat b) (ofNat n)),(ieq (ofNat n) 0),(band (ile 0 (itmod (wr .i64 (iadd (ofNat q) (ofNat b))) (ofNat n))) (ilt (itmod (wr .i64 (iadd (ofNat q) (ofNat b))) (ofNat n)) (ofNat n))),(nlt (toN (itmod (wr .i64 (iadd (ofNat q) (ofNat b))) (ofNat n))) n),(apOK b 1 40)]) (by kernel_rfl) (by simp only [h13] <;> simp only [h0,h1,h14,h15] <;> rfl)
end
def jk14_2 (a:Int) (n:Nat) (f:Nat->E6) (q:Nat):Nat->V:=lkV undefV [(1,.und),(2,.und),(3,.und),(7,.und),(8,.und),(10,.und),(13,.und),(15,.und),(16,.und),(17,.und),(18,.und),(19,.und),(20,.und),(21,.und),(22,.und),(23,.und),(24,.und),(25,.und),(26,.und),(27,.und),(28,.und),(29,.und),(30,.und),(31,.und),(32,.und),(33,.und),(34,.und),(35,.und),(36,.und),(37,.und),(38,.und),(39,.und),(40,.und),(41,.und),(42,.und),(43,.und),(44,.und),(45,.und),(46,.und),(47,.und),(48,.und),(49,.und),(50,.und),(51,.und),(52,.und),(53,(iV a)),(54,(.agg [(iV a),.nilS,.nilS,(iV 0),(iV 0),.nilS,.nilS])),(57,.und),(58,.und),(59,.und),(60,.und),(61,.und),(62,.und),(63,.und),(64,.und),(65,.und),(66,.und),(67,.und),(68,.und),(69,.und),(70,.und),(71,.und),(72,.und),(73,.und),(74,.und),(75,.und),(76,.und),(77,.und),(78,.und),(79,.und),(80,.und),(81,.und),(82,.und),(83,.und),(84,.und),(85,.und),(86,.und),(87,.und),(88,.und),(89,.und),(90,.und),(91,.und),(92,.und),(93,.und),(94,.und),(95,.und),(96,.und),(97,.und),(98,.und),(99,.und),(100,.und),(101,.und),(102,.und),(103,.und),(104,.und),(105,.und),(106,.und),(107,.und),(108,.und),(109,.und),(110,.und),(111,.und),(112,.und),(113,.und),(114,.und),(115,.und),(116,.und),(117,.und),(118,.und),(119,.und),(120,.und),(121,.und),(122,.und),(123,.und),(124,.und),(125,.und),(126,.und),(127,.und),(128,.und),(129,.und),(130,.und),(131,.und),(132,.und),(133,.und),(134,.und),(135,.und),(136,.und),(137,.und),(138,.und),(139,.und),(140,.und),(141,.und),(142,.und),(143,.und),(144,.und),(145,.und),(146,.und),(147,.und),(148,.und),(149,.und),(150,.und),(151,.und),(152,.und),(153,.und),(154,.und),(155,.und),(156,.und),(157,.und),(158,.und),(159,.und),(160,.und),(161,.und),(162,.und),(163,.und)]
def lp14_4 (a:Int) (n:Nat) (f:Nat->E6):Lp:=⟨(bmK 164 0 [0,4,5,6,11,14,16,17,18,80,81]),10,(bmK 164 0 [4,5,6,11,14]),7,n+1⟩
def st14_4 (a:Int) (n:Nat) (f:Nat->E6) (b m:Nat) (tt kk:Int) (g:Nat->E6) (th lo r:Nat->Int) (x:Nat->V) (pl:Int->Int) (j:Nat->V):St:=⟨(jsV 164 0 j [(0,iV a),(4,.ptr 0 0),(5,iV 0),(6,iV 0),(11,nV n),(14,.ptr 2 0),(16,.ref 7),(17,.ref 8),(18,.ref 9),(80,nV n),(81,nV b)]),[(.cells [(iV 0),.nilS,.nilS,(iV 0),(iV 0),.nilS,.nilS]),(.row 44 6 n (fun i=>(eV (canF n f i)))),(.cells [(iV a),(.ref 3),(.ref 4),(iV tt),(iV kk),(.ref 5),(.jref 6)]),(.row 44 6 n (fun i=>(eV (g i)))),(.row 40 5 b x),(.row 3 1 b (fun i=>iV (r i))),(.jag (Jag.mk 25 1 0 (fun _=>.und) 0 3 1 (fun _=>true) (fun _=>0) (fun _ _=>.und))),(.row 3 1 n (fun k=>(iV (th k)))),(.row 3 1 n (fun k=>(iV (lo k)))),(.imap 76 m pl)]⟩
def en14_4e (a:Int) (n:Nat) (f:Nat->E6) (b m:Nat) (tt kk:Int) (g:Nat->E6) (th lo r:Nat->Int) (x:Nat->V) (pl:Int->Int):Ex × St:=(.ex 4,⟨(jsV 164 0 (fun _=>.und) [(4,.ptr 0 0),(5,iV 0),(6,iV 0),(11,nV n),(14,.ptr 2 0)]),[(.cells [(iV 0),.nilS,.nilS,(iV 0),(iV 0),.nilS,.nilS]),(.row 44 6 n (fun i=>(eV (canF n f i)))),(.cells [(iV a),(.ref 3),(.ref 4),(iV tt),(iV kk),(.ref 5),(.jref 6)]),(.row 44 6 n (fun i=>(eV (g i)))),(.row 40 5 b x),(.row 3 1 b (fun i=>iV (r i))),(.jag (Jag.mk 25 1 0 (fun _=>.und) 0 3 1 (fun _=>true) (fun _=>0) (fun _ _=>.und)))]⟩)
noncomputable def body14_4 (L:LT):St->T (Ex × St):=fun st=>evalC tab ⟨call14,L,Gl⟩ (loopBody Try.f14 4) 4 st
section
variable (L:LT) (a:Int) (n:Nat) (f:Nat->E6) (b m:Nat) (tt kk:Int) (g:Nat->E6) (th lo r:Nat->Int) (x:Nat->V) (pl:Int->Int)  (j:Nat->V)
include L a n f b m tt kk g th lo r x pl j
theorem rh14e (h0:ilt (ofNat b) (ofNat n) = false):roundT (body14_4 L) (lp14_4 a n f) (st14_4 a n f b m tt kk g th lo r x pl j) = some ((.ex 4),⟨(jsV 164 0 (fun _=>.und) [(4,(.ptr 0 0)),(5,(iV 0)),(6,(iV 0)),(11,(nV n)),(14,(.ptr 2 0))]),[(.cells [(iV 0),.nilS,.nilS,(iV 0),(iV 0),.nilS,.nilS]),(.row 44 6 n (fun i=>(eV (canF n f i)))),(.cells [(iV a),(.ref 3),(.ref 4),(iV tt),(iV kk),(.ref 5),(.jref 6)]),(.row 44 6 n (fun i=>(eV (g i)))),(.row 40 5 b x),(.row 3 1 b (fun i=>(iV (r i)))),(.jag (Jag.mk 25 1 0 (fun _=>.und) 0 3 1 (fun _=>true) (fun _=>0) (fun _ _=>.und)))]⟩):=by
  exact sem_of_path (ds:=[false]) (cs:=[(ilt (ofNat b) (ofNat n))]) (by kernel_rfl) (by simp only [h0] <;> rfl)
theorem rh14n (h0:ilt (ofNat b) (ofNat n) = true) (h13:ile 0 (ofNat b) = true) (h1:nlt b n = true) (h2:fitI (th b) = true) (h14:apOK b 1 40 = true) (h15:nlt m 4611686018427387904 = true) (h16:fitI (wr .i64 (iadd (pl (th b)) 1)) = true) (h17:apOK b 1 8 = true):roundT (body14_4 L) (lp14_4 a n f) (st14_4 a n f b m tt kk g th lo r x pl j) = some (.nm,⟨(jsV 164 0 (fun _=>.und) [(0,(iV a)),(4,(.ptr 0 0)),(5,(iV 0)),(6,(iV 0)),(11,(nV n)),(14,(.ptr 2 0)),(16,(.ref 7)),(17,(.ref 8)),(18,(.ref 9)),(80,(nV n)),(81,(iV (wr .i64 (iadd (ofNat b) 1))))]),[(.cells [(iV 0),.nilS,.nilS,(iV 0),(iV 0),.nilS,.nilS]),(.row 44 6 n (fun i=>(eV (canF n f i)))),(.cells [(iV a),(.ref 3),(.ref 4),(iV (sel (ilt tt (wr .i64 (iadd (th b) 1))) (wr .i64 (iadd (th b) 1)) tt)),(iV (sel (ilt kk (wr .i64 (iadd (lo b) 1))) (wr .i64 (iadd (lo b) 1)) kk)),(.ref 5),(.jref 6)]),(.row 44 6 n (fun i=>(eV (g i)))),(.row 40 5 (nadd b 1) (pushGet b x (.agg [(iV (th b)),(iV (pl (th b))),(iV ((g b)).src),(iV (lo b)),(iV 0)]))),(.row 3 1 (nadd b 1) (pushGet b (fun i=>(iV (r i))) (iV (-1)))),(.jag (Jag.mk 25 1 0 (fun _=>.und) 0 3 1 (fun _=>true) (fun _=>0) (fun _ _=>.und))),(.row 3 1 n (fun k=>(iV (th k)))),(.row 3 1 n (fun k=>(iV (lo k)))),(.imap 76 (nadd m 1) (fun i=>(sel (ieq i (th b)) (wr .i64 (iadd (pl (th b)) 1)) (pl i))))]⟩):=by
  exact sem_of_path (ds:=bbK 22 4194303) (cs:=((fun c0 c1 c2=>[(ilt (ofNat b) (ofNat n)),c0,c1,c0,c1,c2,c0,c1,c0,c1,(apOK b 1 40),c0,c1,c2,(nlt m 4611686018427387904),c2,(fitI (wr .i64 (iadd (pl (th b)) 1))),c0,c1,c0,c1,(apOK b 1 8)]) (band (ile 0 (ofNat b)) (ilt (ofNat b) (ofNat n))) (nlt b n) (fitI (th b)))) (by kernel_rfl) (by simp only [h0,h13,h1,h2,h14,h15,h16,h17] <;> rfl)
end
def lp14_6 (a:Int) (n:Nat) (f:Nat->E6):Lp:=⟨(bmK 164 0 [4,11,14,145,146]),8,(bmK 164 0 [4,14]),8,n+1⟩
def st14_6 (a:Int) (n:Nat) (f:Nat->E6) (b kk:Nat) (tt:Int) (g:Nat->E6) (x:Nat->Ev5) (r:Nat->Int) (ln:Nat->Nat) (co:Nat->Nat->Int) (j:Nat->V):St:=⟨(jsV 164 0 j [(4,.ptr 0 0),(11,nV n),(14,.ptr 2 0),(145,nV n),(146,nV b)]),[(.cells [(iV 0),.nilS,.nilS,(iV 0),(iV 0),.nilS,.nilS]),(.row 44 6 n (fun i=>eV (canF n f i))),(.cells [(iV a),(.ref 3),(.ref 4),(iV tt),(nV kk),(.ref 5),(.jref 7)]),(.row 44 6 n (fun i=>(eV (g i)))),(.row 40 5 n (fun i=>evV (x i))),(.row 3 1 n (fun i=>iV (r i))),(.jag (Jag.mk 25 1 0 (fun _=>.und) 0 3 1 (fun _=>true) (fun _=>0) (fun _ _=>.und))),(.jag (Jag.mk 25 1 kk (fun _=>.nilS) 0 3 1 (fun _=>true) ln (fun i k=>iV (co i k))))]⟩
def en14_6e (a:Int) (n:Nat) (f:Nat->E6) (b kk:Nat) (tt:Int) (g:Nat->E6) (x:Nat->Ev5) (r:Nat->Int) (ln:Nat->Nat) (co:Nat->Nat->Int):Ex × St:=(.ex 6,⟨(jsV 164 0 (fun _=>.und) [(4,.ptr 0 0),(14,.ptr 2 0)]),[(.cells [(iV 0),.nilS,.nilS,(iV 0),(iV 0),.nilS,.nilS]),(.row 44 6 n (fun i=>eV (canF n f i))),(.cells [(iV a),(.ref 3),(.ref 4),(iV tt),(nV kk),(.ref 5),(.jref 7)]),(.row 44 6 n (fun i=>(eV (g i)))),(.row 40 5 n (fun i=>evV (x i))),(.row 3 1 n (fun i=>iV (r i))),(.jag (Jag.mk 25 1 0 (fun _=>.und) 0 3 1 (fun _=>true) (fun _=>0) (fun _ _=>.und))),(.jag (Jag.mk 25 1 kk (fun _=>.nilS) 0 3 1 (fun _=>true) ln (fun i k=>iV (co i k))))]⟩)
def sl14_6 (n b:Nat) (u:Nat->V):List V:=(jsV 164 0 u [(4,.ptr 0 0),(11,nV n),(14,.ptr 2 0),(145,nV n),(146,nV b)])
noncomputable def body14_6 (L:LT):St->T (Ex × St):=fun st=>evalC tab ⟨call14,L,Gl⟩ (loopBody Try.f14 6) 6 st
section
variable (L:LT) (a:Int) (n:Nat) (f:Nat->E6) (b kk:Nat) (tt:Int) (g:Nat->E6) (x:Nat->Ev5) (r:Nat->Int) (ln:Nat->Nat) (co:Nat->Nat->Int)  (j:Nat->V)
include L a n f b kk tt g x r ln co j
theorem rk14e (h0:ilt (ofNat b) (ofNat n) = false):(((evalC tab ⟨call14,L,Gl⟩ (loopBody Try.f14 6) 6 (st14_6 a n f b kk tt g x r ln co j)).bind fun r=>T.leaf (cutR (lp14_6 a n f) r))).sem = some ((.ex 6),⟨(jsV 164 0 (fun _=>.und) [(4,(.ptr 0 0)),(14,(.ptr 2 0))]),[(.cells [(iV 0),.nilS,.nilS,(iV 0),(iV 0),.nilS,.nilS]),(.row 44 6 n (fun i=>(eV (canF n f i)))),(.cells [(iV a),(.ref 3),(.ref 4),(iV tt),(nV kk),(.ref 5),(.jref 7)]),(.row 44 6 n (fun i=>(eV (g i)))),(.row 40 5 n (fun i=>(.agg [(iV ((x i)).th),(iV ((x i)).pl),(iV ((x i)).dir),(iV ((x i)).loc),(iV ((x i)).val)]))),(.row 3 1 n (fun i=>(iV (r i)))),(.jag (Jag.mk 25 1 0 (fun _=>.und) 0 3 1 (fun _=>true) (fun _=>0) (fun _ _=>.und))),(.jag (Jag.mk 25 1 kk (fun _=>.nilS) 0 3 1 (fun _=>true) ln (fun i k=>(iV (co i k)))))]⟩):=by
  exact sem_of_path (ds:=[false]) (cs:=[(ilt (ofNat b) (ofNat n))]) (by kernel_rfl) (by simp only [h0] <;> rfl)
theorem rk14n (h0:ilt (ofNat b) (ofNat n) = true) (h1:ieq (ofNat n) 0 = false) (h14:band (ile 0 (itmod (wr .i64 (isub (wr .i64 (iadd (ofNat b) (ofNat n))) 1)) (ofNat n))) (ilt (itmod (wr .i64 (isub (wr .i64 (iadd (ofNat b) (ofNat n))) 1)) (ofNat n)) (ofNat n)) = true) (h15:nlt (toN (itmod (wr .i64 (isub (wr .i64 (iadd (ofNat b) (ofNat n))) 1)) (ofNat n))) n = true) (h2:movB (g (toN (itmod (wr .i64 (isub (wr .i64 (iadd (ofNat b) (ofNat n))) 1)) (ofNat n)))) = false):(((evalC tab ⟨call14,L,Gl⟩ (loopBody Try.f14 6) 6 (st14_6 a n f b kk tt g x r ln co j)).bind fun r=>T.leaf (cutR (lp14_6 a n f) r))).sem = some (.nm,⟨(jsV 164 0 (fun _=>.und) [(4,(.ptr 0 0)),(11,(nV n)),(14,(.ptr 2 0)),(145,(nV n)),(146,(iV (wr .i64 (iadd (ofNat b) 1))))]),[(.cells [(iV 0),.nilS,.nilS,(iV 0),(iV 0),.nilS,.nilS]),(.row 44 6 n (fun i=>(eV (canF n f i)))),(.cells [(iV a),(.ref 3),(.ref 4),(iV tt),(nV kk),(.ref 5),(.jref 7)]),(.row 44 6 n (fun i=>(eV (g i)))),(.row 40 5 n (fun i=>(.agg [(iV ((x i)).th),(iV ((x i)).pl),(iV ((x i)).dir),(iV ((x i)).loc),(iV ((x i)).val)]))),(.row 3 1 n (fun i=>(iV (r i)))),(.jag (Jag.mk 25 1 0 (fun _=>.und) 0 3 1 (fun _=>true) (fun _=>0) (fun _ _=>.und))),(.jag (Jag.mk 25 1 kk (fun _=>.nilS) 0 3 1 (fun _=>true) ln (fun i k=>(iV (co i k)))))]⟩):=by
  exact sem_of_path (ds:=[true,false,true,true,false]) (cs:=[(ilt (ofNat b) (ofNat n)),(ieq (ofNat n) 0),(band (ile 0 (itmod (wr .i64 (isub (wr .i64 (iadd (ofNat b) (ofNat n))) 1)) (ofNat n))) (ilt (itmod (wr .i64 (isub (wr .i64 (iadd (ofNat b) (ofNat n))) 1)) (ofNat n)) (ofNat n))),(nlt (toN (itmod (wr .i64 (isub (wr .i64 (iadd (ofNat b) (ofNat n))) 1)) (ofNat n))) n),(movB (g (toN (itmod (wr .i64 (isub (wr .i64 (iadd (ofNat b) (ofNat n))) 1)) (ofNat n)))))]) (by kernel_rfl) (by simp only [h14] <;> simp only [h0,h1,h15,h2] <;> rfl)
end
theorem rk14w (L:LT) (a:Int) (n:Nat) (f:Nat->E6) (b kk:Nat) (tt:Int) (g:Nat->E6) (x:Nat->Ev5) (r:Nat->Int) (ln:Nat->Nat) (co:Nat->Nat->Int) (u:Nat->V) (x':Nat->Ev5) (r':Nat->Int) (ln':Nat->Nat) (co':Nat->Nat->Int) (q55:List V->St->Bool) (j:Nat->V) (h0:ilt (ofNat b) (ofNat n) = true) (h1:ieq (ofNat n) 0 = false) (h14:band (ile 0 (itmod (wr .i64 (isub (wr .i64 (iadd (ofNat b) (ofNat n))) 1)) (ofNat n))) (ilt (itmod (wr .i64 (isub (wr .i64 (iadd (ofNat b) (ofNat n))) 1)) (ofNat n)) (ofNat n)) = true) (h15:nlt (toN (itmod (wr .i64 (isub (wr .i64 (iadd (ofNat b) (ofNat n))) 1)) (ofNat n))) n = true) (h2:movB (g (toN (itmod (wr .i64 (isub (wr .i64 (iadd (ofNat b) (ofNat n))) 1)) (ofNat n)))) = true) (hq55:(q55 [(.ptr 2 0),(nV b)] ⟨(jsV 164 0 j [(4,(.ptr 0 0)),(11,(nV n)),(14,(.ptr 2 0)),(20,(nV b)),(145,(nV n)),(146,(nV b)),(147,(bV (ilt (ofNat b) (ofNat n)))),(148,(nV b)),(149,(.ptr 2 1)),(150,(.ref 3)),(151,(nV b)),(152,(nV n)),(153,(iV (wr .i64 (iadd (ofNat b) (ofNat n))))),(154,(iV (wr .i64 (isub (wr .i64 (iadd (ofNat b) (ofNat n))) 1)))),(155,(nV n)),(156,(iV (itmod (wr .i64 (isub (wr .i64 (iadd (ofNat b) (ofNat n))) 1)) (ofNat n)))),(157,(.ept 3 6 (toN (itmod (wr .i64 (isub (wr .i64 (iadd (ofNat b) (ofNat n))) 1)) (ofNat n))) 0)),(158,(eV (g (toN (itmod (wr .i64 (isub (wr .i64 (iadd (ofNat b) (ofNat n))) 1)) (ofNat n)))))),(159,(bV (movB (g (toN (itmod (wr .i64 (isub (wr .i64 (iadd (ofNat b) (ofNat n))) 1)) (ofNat n))))))),(160,(nV b))]),[(.cells [(iV 0),.nilS,.nilS,(iV 0),(iV 0),.nilS,.nilS]),(.row 44 6 n (fun i=>(eV (canF n f i)))),(.cells [(iV a),(.ref 3),(.ref 4),(iV tt),(nV kk),(.ref 5),(.jref 7)]),(.row 44 6 n (fun i=>(eV (g i)))),(.row 40 5 n (fun i=>(.agg [(iV ((x i)).th),(iV ((x i)).pl),(iV ((x i)).dir),(iV ((x i)).loc),(iV ((x i)).val)]))),(.row 3 1 n (fun i=>(iV (r i)))),(.jag (Jag.mk 25 1 0 (fun _=>.und) 0 3 1 (fun _=>true) (fun _=>0) (fun _ _=>.und))),(.jag (Jag.mk 25 1 kk (fun _=>.nilS) 0 3 1 (fun _=>true) ln (fun i k=>(iV (co i k)))))]⟩) = true):(((evalC tab ⟨(onC 55 q55 (.tup [],.all ⟨sl14_6 n b u,[(.cells [(iV 0),.nilS,.nilS,(iV 0),(iV 0),.nilS,.nilS]),(.row 44 6 n (fun i=>eV (canF n f i))),(.cells [(iV a),(.ref 3),(.ref 4),(iV tt),(nV kk),(.ref 5),(.jref 7)]),(.row 44 6 n (fun i=>(eV (g i)))),(.row 40 5 n (fun i=>evV (x' i))),(.row 3 1 n (fun i=>iV (r' i))),(.jag (Jag.mk 25 1 0 (fun _=>.und) 0 3 1 (fun _=>true) (fun _=>0) (fun _ _=>.und))),(.jag (Jag.mk 25 1 kk (fun _=>.nilS) 0 3 1 (fun _=>true) ln' (fun i k=>iV (co' i k))))] ++ [.dead]⟩) (call14)),L,Gl⟩ (loopBody Try.f14 6) 6 (st14_6 a n f b kk tt g x r ln co j)).bind fun r=>T.leaf (cutR (lp14_6 a n f) r))).sem = some (.nm,⟨(jsV 164 0 (fun _=>.und) [(4,(.ptr 0 0)),(11,(nV n)),(14,(.ptr 2 0)),(145,(nV n)),(146,(iV (wr .i64 (iadd (ofNat b) 1))))]),[(.cells [(iV 0),.nilS,.nilS,(iV 0),(iV 0),.nilS,.nilS]),(.row 44 6 n (fun i=>(eV (canF n f i)))),(.cells [(iV a),(.ref 3),(.ref 4),(iV tt),(nV kk),(.ref 5),(.jref 7)]),(.row 44 6 n (fun i=>(eV (g i)))),(.row 40 5 n (fun i=>(.agg [(iV ((x' i)).th),(iV ((x' i)).pl),(iV ((x' i)).dir),(iV ((x' i)).loc),(iV ((x' i)).val)]))),(.row 3 1 n (fun i=>(iV (r' i)))),(.jag (Jag.mk 25 1 0 (fun _=>.und) 0 3 1 (fun _=>true) (fun _=>0) (fun _ _=>.und))),(.jag (Jag.mk 25 1 kk (fun _=>.nilS) 0 3 1 (fun _=>true) ln' (fun i k=>(iV (co' i k)))))]⟩):=by
  exact sem_of_path (ds:=bbK 6 61) (cs:=[(ilt (ofNat b) (ofNat n)),(ieq (ofNat n) 0),(band (ile 0 (itmod (wr .i64 (isub (wr .i64 (iadd (ofNat b) (ofNat n))) 1)) (ofNat n))) (ilt (itmod (wr .i64 (isub (wr .i64 (iadd (ofNat b) (ofNat n))) 1)) (ofNat n)) (ofNat n))),(nlt (toN (itmod (wr .i64 (isub (wr .i64 (iadd (ofNat b) (ofNat n))) 1)) (ofNat n))) n),(movB (g (toN (itmod (wr .i64 (isub (wr .i64 (iadd (ofNat b) (ofNat n))) 1)) (ofNat n))))),(q55 [(.ptr 2 0),(nV b)] ⟨(jsV 164 0 j [(4,(.ptr 0 0)),(11,(nV n)),(14,(.ptr 2 0)),(20,(nV b)),(145,(nV n)),(146,(nV b)),(147,(bV (ilt (ofNat b) (ofNat n)))),(148,(nV b)),(149,(.ptr 2 1)),(150,(.ref 3)),(151,(nV b)),(152,(nV n)),(153,(iV (wr .i64 (iadd (ofNat b) (ofNat n))))),(154,(iV (wr .i64 (isub (wr .i64 (iadd (ofNat b) (ofNat n))) 1)))),(155,(nV n)),(156,(iV (itmod (wr .i64 (isub (wr .i64 (iadd (ofNat b) (ofNat n))) 1)) (ofNat n)))),(157,(.ept 3 6 (toN (itmod (wr .i64 (isub (wr .i64 (iadd (ofNat b) (ofNat n))) 1)) (ofNat n))) 0)),(158,(eV (g (toN (itmod (wr .i64 (isub (wr .i64 (iadd (ofNat b) (ofNat n))) 1)) (ofNat n)))))),(159,(bV (movB (g (toN (itmod (wr .i64 (isub (wr .i64 (iadd (ofNat b) (ofNat n))) 1)) (ofNat n))))))),(160,(nV b))]),[(.cells [(iV 0),.nilS,.nilS,(iV 0),(iV 0),.nilS,.nilS]),(.row 44 6 n (fun i=>(eV (canF n f i)))),(.cells [(iV a),(.ref 3),(.ref 4),(iV tt),(nV kk),(.ref 5),(.jref 7)]),(.row 44 6 n (fun i=>(eV (g i)))),(.row 40 5 n (fun i=>(.agg [(iV ((x i)).th),(iV ((x i)).pl),(iV ((x i)).dir),(iV ((x i)).loc),(iV ((x i)).val)]))),(.row 3 1 n (fun i=>(iV (r i)))),(.jag (Jag.mk 25 1 0 (fun _=>.und) 0 3 1 (fun _=>true) (fun _=>0) (fun _ _=>.und))),(.jag (Jag.mk 25 1 kk (fun _=>.nilS) 0 3 1 (fun _=>true) ln (fun i k=>(iV (co i k)))))]⟩)]) (by kernel_rfl) (by simp only [hq55] <;> simp only [h14] <;> simp only [h0,h1,h15,h2] <;> rfl)
def ent14_4 (a:Int) (n:Nat) (f:Nat->E6) (q:Nat) (g:Nat->E6):St:=⟨(jsV 164 0 (fun _=>.und) [(0,(iV a)),(4,(.ptr 0 0)),(5,(iV 0)),(6,(iV 0)),(11,(nV n)),(14,(.ptr 2 0)),(16,(.ref 7)),(17,(.ref 8)),(18,(.ref 9)),(73,(.ptr 2 1)),(74,(.ref 3)),(75,(.ref 7)),(76,(.ptr 2 1)),(77,(.ref 3)),(78,(.ref 8)),(79,(.ref 9)),(80,(nV n)),(81,(iV 0))]),[(.cells [(iV 0),.nilS,.nilS,(iV 0),(iV 0),.nilS,.nilS]),(.row 44 6 n (fun i=>(eV (canF n f i)))),(.cells [(iV a),(.ref 3),(.ref 4),(iV 0),(iV 0),(.ref 5),(.jref 6)]),(.row 44 6 n (fun i=>(eV (g i)))),(.row 40 5 0 (fun _=>.und)),(.row 3 1 0 (fun _=>.und)),(.jag (Jag.mk 25 1 0 (fun _=>.und) 0 3 1 (fun _=>true) (fun _=>0) (fun _ _=>.und))),(.row 3 1 n (fun k=>(iV (partF (fun k=>(outB (g k))) n k)))),(.row 3 1 n (fun k=>(iV (partF (fun k=>(movB (g k))) n k)))),(.imap 76 0 (fun _=>0))]⟩
def ent14_6 (a:Int) (n:Nat) (f:Nat->E6) (q m kk:Nat) (tt:Int) (g:Nat->E6) (th lo r:Nat->Int) (x:Nat->Ev5) (pl:Int->Int):St:=⟨(jsV 164 0 (fun _=>.und) [(4,(.ptr 0 0)),(5,(iV 0)),(6,(iV 0)),(11,(nV n)),(14,(.ptr 2 0)),(141,(.ptr 2 4)),(142,(nV kk)),(143,(.jref 7)),(144,(.ptr 2 6)),(145,(nV n)),(146,(iV 0))]),[(.cells [(iV 0),.nilS,.nilS,(iV 0),(iV 0),.nilS,.nilS]),(.row 44 6 n (fun i=>(eV (canF n f i)))),(.cells [(iV a),(.ref 3),(.ref 4),(iV tt),(nV kk),(.ref 5),(.jref 7)]),(.row 44 6 n (fun i=>(eV (g i)))),(.row 40 5 n (fun i=>(.agg [(iV ((x i)).th),(iV ((x i)).pl),(iV ((x i)).dir),(iV ((x i)).loc),(iV ((x i)).val)]))),(.row 3 1 n (fun i=>(iV (r i)))),(.jag (Jag.mk 25 1 0 (fun _=>.und) 0 3 1 (fun _=>true) (fun _=>0) (fun _ _=>.und))),(.jag (Jag.mk 25 1 kk (fun _=>.nilS) 0 3 1 (fun _=>true) (fun _=>0) (fun _ _=>.und)))]⟩
theorem w14o (L:LT) (p0:PT) (p2:PT) (p4:PT) (p6:PT) (a:Int) (n:Nat) (f:Nat->E6) (q m kk:Nat) (tt:Int) (g:Nat->E6) (th lo r:Nat->Int) (x:Nat->Ev5) (pl:Int->Int) (x':Nat->Ev5) (r':Nat->Int) (ln':Nat->Nat) (co':Nat->Nat->Int) (h0:fitN n = true) (h1:ieq (chkE a n f) 0 = true) (h2:mayN n f = true) (h3:band (ilt 0 (ofNat n)) (band (fit8 n) (mkOK 8 (ofNat n) (ofNat n))) = true) (h15:rowsBare [.row 3 1 n (fun _=>iV 0)] = true) (h4:mkOK 24 (ofNat kk) (ofNat kk) = true) (hp0:p0 (body14 (onP 0 p0 (en14x a n f q) (onP 2 p2 (en14_2e a n f q n (fun i=>eV (g i))) (onP 4 p4 (en14_4e a n f n m tt (ofNat kk) g th lo r (fun i=>evV (x i)) pl) (onP 6 p6 (en14_6e a n f n kk tt g x' r' ln' co') L))))) (st14 a n f 0 (jk14 a n f )) = true) (hp2:p2 (body14_2 (onP 0 p0 (en14x a n f q) (onP 2 p2 (en14_2e a n f q n (fun i=>eV (g i))) (onP 4 p4 (en14_4e a n f n m tt (ofNat kk) g th lo r (fun i=>evV (x i)) pl) (onP 6 p6 (en14_6e a n f n kk tt g x' r' ln' co') L))))) (st14_2 a n f q 0 (fun _=>.und) (jk14_2 a n f q)) = true) (hp4:p4 (body14_4 (onP 0 p0 (en14x a n f q) (onP 2 p2 (en14_2e a n f q n (fun i=>eV (g i))) (onP 4 p4 (en14_4e a n f n m tt (ofNat kk) g th lo r (fun i=>evV (x i)) pl) (onP 6 p6 (en14_6e a n f n kk tt g x' r' ln' co') L))))) (ent14_4 a n f q g) = true) (hp6:p6 (body14_6 (onP 0 p0 (en14x a n f q) (onP 2 p2 (en14_2e a n f q n (fun i=>eV (g i))) (onP 4 p4 (en14_4e a n f n m tt (ofNat kk) g th lo r (fun i=>evV (x i)) pl) (onP 6 p6 (en14_6e a n f n kk tt g x' r' ln' co') L))))) (ent14_6 a n f q m kk tt g th lo r x pl) = true):(finF (evalF tab ⟨call14,(onP 0 p0 (en14x a n f q) (onP 2 p2 (en14_2e a n f q n (fun i=>eV (g i))) (onP 4 p4 (en14_4e a n f n m tt (ofNat kk) g th lo r (fun i=>evV (x i)) pl) (onP 6 p6 (en14_6e a n f n kk tt g x' r' ln' co') L)))),Gl⟩ Try.f14 [iV a,.sl 6 n fun i=>eV (f i)] [])).sem = some ((.tup [(.agg [(iV a),(.ref 0),(.ref 1),(iV tt),(nV kk),(.ref 2),(.jref 3)]),(iV 0),(iV 0)]),[(.row 44 6 n (fun i=>(eV (g i)))),(.row 40 5 n (fun i=>(.agg [(iV ((x' i)).th),(iV ((x' i)).pl),(iV ((x' i)).dir),(iV ((x' i)).loc),(iV ((x' i)).val)]))),(.row 3 1 n (fun i=>(iV (r' i)))),(.jag (Jag.mk 25 1 kk (fun _=>.nilS) 0 3 1 (fun _=>true) ln' (fun i k=>(iV (co' i k)))))]):=by
  exact sem_of_path (ds:=bbK 19 524283) (cs:=((fun c0 c1 c2 c3 c4=>[c0,c1,(bnot (ieq (chkE a n f) 0)),c0,c1,(mayN n f),(p0 (body14 (onP 0 p0 (en14x a n f q) (onP 2 p2 (en14_2e a n f q n (fun i=>eV (g i))) (onP 4 p4 (en14_4e a n f n m tt (ofNat kk) g th lo r (fun i=>evV (x i)) pl) (onP 6 p6 (en14_6e a n f n kk tt g x' r' ln' co') L))))) (st14 a n f 0 (jk14 a n f ))),(p2 (body14_2 (onP 0 p0 (en14x a n f q) (onP 2 p2 (en14_2e a n f q n (fun i=>eV (g i))) (onP 4 p4 (en14_4e a n f n m tt (ofNat kk) g th lo r (fun i=>evV (x i)) pl) (onP 6 p6 (en14_6e a n f n kk tt g x' r' ln' co') L))))) (st14_2 a n f q 0 (fun _=>.und) (jk14_2 a n f q))),c2,c0,c3,c4,c2,c0,c3,c4,(p4 (body14_4 (onP 0 p0 (en14x a n f q) (onP 2 p2 (en14_2e a n f q n (fun i=>eV (g i))) (onP 4 p4 (en14_4e a n f n m tt (ofNat kk) g th lo r (fun i=>evV (x i)) pl) (onP 6 p6 (en14_6e a n f n kk tt g x' r' ln' co') L))))) (ent14_4 a n f q g)),(mkOK 24 (ofNat kk) (ofNat kk)),(p6 (body14_6 (onP 0 p0 (en14x a n f q) (onP 2 p2 (en14_2e a n f q n (fun i=>eV (g i))) (onP 4 p4 (en14_4e a n f n m tt (ofNat kk) g th lo r (fun i=>evV (x i)) pl) (onP 6 p6 (en14_6e a n f n kk tt g x' r' ln' co') L))))) (ent14_6 a n f q m kk tt g th lo r x pl))]) (allN n (fun _=>true)) (fitN n) (true) (band (ilt 0 (ofNat n)) (band (fit8 n) (mkOK 8 (ofNat n) (ofNat n)))) (rowsBare [.row 3 1 n (fun _=>iV 0)]))) (by kernel_rfl) (by simp only [hp0,hp2,hp4,hp6] <;> simp only [h3] <;> simp only [h0,h1,h2,h15,h4,allN_true,rowsBare_iV] <;> rfl)
def noLp:LT:=fun _ _ _=>.fail
theorem noLp_le (L:LT):LLe noLp L:=fun _ _ _ _ _ _ h=>by cases h
def zE:E6:=⟨0,false,false,0,0,0⟩
def cutE (n:Nat) (G:Nat->E6) (i:Nat):E6:=bif decide (i < n) then G i else zE
def shQ (n:Nat) (f:Nat->E6):Nat:=(lstN (fun i=>outB (canF n f i)) n+1) % n
def shG (n:Nat) (f:Nat->E6):Nat->E6:=cutE n fun i=>canF n f ((shQ n f+i) % n)
theorem run14 (L:LT) (a:Int) (n:Nat) (f:Nat->E6) (hn:n <= 4611686018427387903) (k:Nat) (hk:k < n) (ht:outB (canF n f k) = true) (hb:∀ i,i < k->outB (canF n f i) = false):∀ (e b:Nat) (j:Nat->V) (q:Nat),k = b+e->e < q ->
    (iterT (body14 L) (lp14 a n f) q (st14 a n f b j)).sem = some (en14x a n f ((k+1) % n))
  | 0,b,j,q+1,h,_=>by
    have:k = b:=by omega
    subst this
    rw [iter_round (rf14t L a n f k j (ofNat_lt hk) (ofNat_0 k) (decide_eq_true hk) ht (ieq0 (by omega))),goOn_ex,succ_wr hk (by omega),mod_nat]
    rfl
  | e+1,b,j,q+1,h,h2=>by
    have hl:b < n:=by omega
    rw [iter_round (rf14n L a n f b j (ofNat_lt hl) (ofNat_0 b) (decide_eq_true hl) (hb b (by omega))),goOn_nm,succ_wr hl (by omega)]
    exact run14 L a n f hn k hk ht hb e (b+1) (fun _=>.und) q (by omega) (by omega)
def upE (b:Nat) (G:Nat->E6) (i:Nat):E6:=bif decide (i < b) then G i else zE
theorem upE_push (b:Nat) (G:Nat->E6):pushGet b (fun i=>eV (upE b G i)) (eV (G b)) = fun i=>eV (upE (b+1) G i):=by
  funext k
  rw [pushGet_eq,show Nat.beq k b = decide (k = b) by rw [Bool.eq_iff_iff]; simp]
  unfold upE
  by_cases h:k = b
  · subst h; simp
  · by_cases h2:k < b
    · have:k < b+1:=by omega
      simp [h,h2,this]
    · have:¬ k < b+1:=by omega
      simp [h,h2,this]
theorem run14b (L:LT) (a:Int) (n:Nat) (f:Nat->E6) (hn:n <= 16) (z:Nat) (hz:z < n):∀ (e b:Nat) (j:Nat->V) (q:Nat),n = b+e->e < q ->
    (iterT (body14_2 L) (lp14_2 a n f) q (st14_2 a n f z b (fun i=>eV (upE b (fun i=>canF n f ((z+i) % n)) i)) j)).sem = some (en14_2e a n f z n (fun i=>eV (upE n (fun i=>canF n f ((z+i) % n)) i)))
  | 0,b,j,q+1,h,_=>by
    have:n = b:=by omega
    subst this
    exact iter_round (rg14e L a n f z n _ j (ofNat_ge (Nat.le_refl _)))
  | e+1,b,j,q+1,h,h2=>by
    have hl:b < n:=by omega
    have hI:itmod (wr .i64 (iadd (ofNat z) (ofNat b))) (ofNat n) = ofNat ((z+b) % n):=by rw [wr_add (by omega),mod_nat]
    have hlt:(z+b) % n < n:=Nat.mod_lt _ (by omega)
    rw [iter_round (rg14n L a n f z b _ j (ofNat_lt hl) (ieq0 (by omega)) (by rw [hI]; exact ofNat_in hlt) (by rw [hI]; exact decide_eq_true hlt) (ap_ok (by omega))),goOn_nm,hI,succ_wr hl (by omega),show toN (ofNat ((z+b) % n)) = (z+b) % n from rfl,
      show canF n f ((z+b) % n) = (fun i=>canF n f ((z+i) % n)) b from rfl,upE_push]
    exact run14b L a n f hn z hz e (b+1) (fun _=>.und) q (by omega) (by omega)
def upX (n:Nat) (g:Nat->E6) (b i:Nat):Ev5:=bif decide (i < b) then evF n g (fun _=>false) i else ⟨0,0,0,0,0⟩
theorem upX_push (n:Nat) (g:Nat->E6) (b:Nat):pushGet b (fun i=>evV (upX n g b i)) (evV (evF n g (fun _=>false) b)) = fun i=>evV (upX n g (b+1) i):=by
  funext k
  rw [pushGet_eq,show Nat.beq k b = decide (k = b) by rw [Bool.eq_iff_iff]; simp]
  unfold upX
  by_cases h:k = b
  · subst h; simp
  · by_cases h2:k < b
    · have:k < b+1:=by omega
      simp [h,h2,this]
    · have:¬ k < b+1:=by omega
      simp [h,h2,this]
theorem push_const (b:Nat) (v:V):pushGet b (fun _=>v) v = fun _=>v:=by
  funext k
  rw [pushGet_eq]
  cases Nat.beq k b <;> rfl
def plM (n:Nat) (g:Nat->E6) (b:Nat) (x:Int):Int:=ofNat (cntB (fun k=>ieq x (thF n g k)) b)
theorem plM_up (n:Nat) (g:Nat->E6) {b:Nat} (hb:b < n) (hn:n <= 16):(fun i=>sel (ieq i (thF n g b)) (wr .i64 (iadd (plM n g b (thF n g b)) 1)) (plM n g b i)) = plM n g (b+1):=by
  funext i
  have hc:=cntB_le (fun k=>ieq (thF n g b) (thF n g k)) b
  unfold plM
  rw [succ_wr (n:=n) (by omega) (by omega)]
  cases h:ieq i (thF n g b) with
  | true =>
    have:=ieq_eq h
    subst this
    rw [cntB_t h]
    rfl
  | false =>
    rw [cntB_f h]
    rfl
theorem max_r {p:Nat->Bool} {n b:Nat} (hb:b < n) (hn:n <= 16):sel (ilt (ofNat (rN p n b)) (wr .i64 (iadd (partF p n b) 1))) (wr .i64 (iadd (partF p n b) 1)) (ofNat (rN p n b)) = ofNat (rN p n (b+1)):=by
  have h1:=part_le p n b hb
  have h2:=rN_le p n b
  rw [partF_N hb,succ_wr (n:=n) (by omega) (by omega),ilt_nat,rN]
  by_cases h:partN p n b < rN p n b
  · rw [if_pos h,decide_eq_false (by omega)]; rfl
  · rw [if_neg h,decide_eq_true (by omega)]
    show ofNat (partN p n b+1) = _
    rw [show partN p n b = rN p n b by omega]
theorem run14c (L:LT) (a:Int) (n:Nat) (f:Nat->E6) (hn:n <= 16) (g:Nat->E6):∀ (e b:Nat) (j:Nat->V) (q:Nat),n = b+e->e < q ->
    (iterT (body14_4 L) (lp14_4 a n f) q (st14_4 a n f b b (ofNat (rN (obF g) n b)) (ofNat (rN (mbF g) n b)) g (thF n g) (loF n g) (fun _=>-1) (fun i=>evV (upX n g b i)) (plM n g b) j)).sem = some (en14_4e a n f n n (ofNat (rN (obF g) n n)) (ofNat (rN (mbF g) n n)) g (thF n g) (loF n g) (fun _=>-1) (fun i=>evV (upX n g n i)) (plM n g n))
  | 0,b,j,q+1,h,_=>by
    have:n = b:=by omega
    subst this
    exact iter_round (rh14e L a n f n n _ _ g _ _ _ _ _ j (ofNat_ge (Nat.le_refl _)))
  | e+1,b,j,q+1,h,h2=>by
    have hl:b < n:=by omega
    have hth:thF n g b = ofNat (partN (obF g) n b):=partF_N hl
    have hpn:=partN_lt (p:=obF g) (n:=n) (k:=b) (by omega)
    have hcn:=cntB_le (obF g) n
    have hc:=cntB_le (fun k=>ieq (thF n g b) (thF n g k)) b
    have fit:∀ k:Nat,k <= 100->fitI (ofNat k) = true:=fun k hk=>by
      unfold fitI
      rw [decide_eq_true (by simp only [Int.ofNat_eq_natCast]; omega),decide_eq_true (by simp only [Int.ofNat_eq_natCast]; omega)]
      rfl
    rw [iter_round (rh14n L a n f b b _ _ g _ _ _ _ _ j (ofNat_lt hl) (ofNat_0 b) (decide_eq_true hl) (by rw [hth]; exact fit _ (by omega)) (ap_ok (by omega)) (decide_eq_true (by omega)) (by unfold plM; rw [succ_wr (n:=n) (by omega) (by omega)]; exact fit _ (by omega)) (ap_ok (by omega))),goOn_nm,succ_wr hl (by omega)]
    have hx:=upX_push n g b
    rw [show evV (evF n g (fun _=>false) b) = .agg [iV (thF n g b),iV (plM n g b (thF n g b)),iV (g b).src,iV (loF n g b),iV 0] by rw [evF_in hl]; rfl] at hx
    rw [hx,push_const,plM_up n g hl hn]
    have m1:=max_r (p:=obF g) hl hn
    have m2:=max_r (p:=mbF g) hl hn
    have m1:sel (ilt (ofNat (rN (obF g) n b)) (wr .i64 (iadd (thF n g b) 1))) (wr .i64 (iadd (thF n g b) 1)) (ofNat (rN (obF g) n b)) = ofNat (rN (obF g) n (b+1)):=m1
    have m2:sel (ilt (ofNat (rN (mbF g) n b)) (wr .i64 (iadd (loF n g b) 1))) (wr .i64 (iadd (loF n g b) 1)) (ofNat (rN (mbF g) n b)) = ofNat (rN (mbF g) n (b+1)):=m2
    rw [m1,m2]
    exact run14c L a n f hn g e (b+1) (fun _=>.und) q (by omega) (by omega)
def slW (w4 w11 w14 w145 w146:V) (u:Nat->V):List V:=(jsV 164 0 u [(4,w4),(11,w11),(14,w14),(145,w145),(146,w146)])
def ts14 (n b:Nat) (g:Nat->E6) (j:Nat->V):List V:=(jsV 164 0 j [(4,(.ptr 0 0)),(11,(nV n)),(14,(.ptr 2 0)),(20,(nV b)),(145,(nV n)),(146,(nV b)),(147,(bV (ilt (ofNat b) (ofNat n)))),(148,(nV b)),(149,(.ptr 2 1)),(150,(.ref 3)),(151,(nV b)),(152,(nV n)),(153,(iV (wr .i64 (iadd (ofNat b) (ofNat n))))),(154,(iV (wr .i64 (isub (wr .i64 (iadd (ofNat b) (ofNat n))) 1)))),(155,(nV n)),(156,(iV (itmod (wr .i64 (isub (wr .i64 (iadd (ofNat b) (ofNat n))) 1)) (ofNat n)))),(157,(.ept 3 6 (toN (itmod (wr .i64 (isub (wr .i64 (iadd (ofNat b) (ofNat n))) 1)) (ofNat n))) 0)),(158,(eV (g (toN (itmod (wr .i64 (isub (wr .i64 (iadd (ofNat b) (ofNat n))) 1)) (ofNat n)))))),(159,(bV (movB (g (toN (itmod (wr .i64 (isub (wr .i64 (iadd (ofNat b) (ofNat n))) 1)) (ofNat n))))))),(160,(nV b))])
theorem ts14_eq (n b:Nat) (g:Nat->E6) (j:Nat->V):(jsV 164 0 j [(4,(.ptr 0 0)),(11,(nV n)),(14,(.ptr 2 0)),(20,(nV b)),(145,(nV n)),(146,(nV b)),(147,(bV (ilt (ofNat b) (ofNat n)))),(148,(nV b)),(149,(.ptr 2 1)),(150,(.ref 3)),(151,(nV b)),(152,(nV n)),(153,(iV (wr .i64 (iadd (ofNat b) (ofNat n))))),(154,(iV (wr .i64 (isub (wr .i64 (iadd (ofNat b) (ofNat n))) 1)))),(155,(nV n)),(156,(iV (itmod (wr .i64 (isub (wr .i64 (iadd (ofNat b) (ofNat n))) 1)) (ofNat n)))),(157,(.ept 3 6 (toN (itmod (wr .i64 (isub (wr .i64 (iadd (ofNat b) (ofNat n))) 1)) (ofNat n))) 0)),(158,(eV (g (toN (itmod (wr .i64 (isub (wr .i64 (iadd (ofNat b) (ofNat n))) 1)) (ofNat n)))))),(159,(bV (movB (g (toN (itmod (wr .i64 (isub (wr .i64 (iadd (ofNat b) (ofNat n))) 1)) (ofNat n))))))),(160,(nV b))]) = ts14 n b g j:=rfl
theorem ts14_map (n b:Nat) (g:Nat->E6) (j:Nat->V) (F:V->V):(ts14 n b g j).map F = slW (F (.ptr 0 0)) (F (nV n)) (F (.ptr 2 0)) (F (nV n)) (F (nV b)) (fun i=>F (nth (ts14 n b g j) i)):=by kernel_rfl
def hpD (a:Int) (n:Nat) (f:Nat->E6) (g:Nat->E6) (tt:Int) (b:Nat):List Blk:=[(.cells [(iV 0),.nilS,.nilS,(iV 0),(iV 0),.nilS,.nilS]),(.row 44 6 n (fun i=>eV (canF n f i))),(.cells [(iV a),(.ref 3),(.ref 4),(iV tt),(iV (ofNat (kkN n g))),(.ref 5),(.jref 7)]),(.row 44 6 n (fun i=>(eV (g i)))),(.row 40 5 n (fun i=>evV (evF n g (dnF n g (segN (mbF g) n) b 0) i))),(.row 3 1 n (fun i=>iV (rfF n g (dnF n g (segN (mbF g) n) b 0) i))),(.jag (Jag.mk 25 1 0 (fun _=>.und) 0 3 1 (fun _=>true) (fun _=>0) (fun _ _=>.und))),(.jag (Jag.mk 25 1 (kkN n g) (fun _=>.nilS) 0 3 1 (fun _=>true) (lnP n g b 0) (fun i k=>iV (coP n g b 0 i k))))]
theorem call14_55 (vs:List V) (st:St):call14 55 vs st = inlF tab (cxOf Gl tb55 lps55) Try.f55 vs st:=by kernel_rfl
theorem inlF_sem {τ:List Ty} {Γ:Cx} {fn:Func} {vs:List V} {st:St} {p:V × List Blk} {t:List V} (h:(evalF τ Γ fn vs (st.h ++ [.saved st.t])).sem = some p) (hp:p.2[st.h.length]? = some (.saved t)) :
    (inlF τ Γ fn vs st).sem = some (p.1,.all ⟨t,p.2.set st.h.length .dead⟩):=by
  unfold inlF
  rw [sem_bind,h]
  show (match p.2[st.h.length]? with | some (.saved t)=>T.leaf (p.1,Res.all ⟨t,p.2.set st.h.length .dead⟩) | _=>.fail).sem = _
  rw [hp]
  rfl
theorem call55 (a:Int) (n:Nat) (f:Nat->E6) (hn:n <= 16) (b:Nat) (g:Nat->E6) (tt:Int) (ts:List V) (hb:b < n) (hst:isSt (mbF g) n b = true):∃ F,Simple F ∧
    (call14 55 [.ptr 2 0,nV b] ⟨ts,(hpD a n f g tt b)⟩).sem = some (.tup [],.all ⟨ts.map F,(hpD a n f g tt (b+1)) ++ [Blk.dead]⟩):=by
  obtain ⟨l1,l2,l3,l4⟩:=len_spec hb hst
  have hL:=loopsBy_le lps55
  have h1:∃ F,Simple F ∧ (iterT (body55 (loopsBy lps55)) (lp55 a n (kkN n g) b (fun i=>canF n f i) g tt (fun _=>.nilS) (evF n g (dnF n g (segN (mbF g) n) b 0)) (rfF n g (dnF n g (segN (mbF g) n) b 0)) (lnP n g b 0) (coP n g b 0) ts) 17 (st55 a n (kkN n g) b (fun i=>canF n f i) g tt (fun _=>.nilS) (evF n g (dnF n g (segN (mbF g) n) b 0)) (rfF n g (dnF n g (segN (mbF g) n) b 0)) (lnP n g b 0) (coP n g b 0) ts 0 (loF n g b) (-1) 0 (evF n g (dnF n g (segN (mbF g) n) b 0)) (rfF n g (dnF n g (segN (mbF g) n) b 0)) (lnP n g b 0) (coP n g b 0) (jk55 a n (kkN n g) b (fun i=>canF n f i) g tt (fun _=>.nilS) (evF n g (dnF n g (segN (mbF g) n) b 0)) (rfF n g (dnF n g (segN (mbF g) n) b 0)) (lnP n g b 0) (coP n g b 0) ts))).sem = _ :=
    run55 (loopsBy lps55) a n b (fun i=>canF n f i) g tt (fun _=>.nilS) (evF n g (dnF n g (segN (mbF g) n) b 0)) (rfF n g (dnF n g (segN (mbF g) n) b 0)) (lnP n g b 0) (coP n g b 0) ts hb hst (by omega) (lenN (mbF g) n b - 1) 0 ts _ 17 (by omega) (by omega)
  obtain ⟨F,hF,h1⟩:=h1
  refine ⟨F,hF,?_⟩
  have hin:band (ile 0 (ofNat b)) (ilt (ofNat b) (ofNat n)) = true:=ofNat_in hb
  have hlc:(evF n g (dnF n g (segN (mbF g) n) b 0) b).loc = loF n g b:=by rw [evF_in hb]
  have hw:=ww55 (loopsBy lps55) (isP (loopsBy lps55) 0 (en55r a n (kkN n g) b (fun i=>canF n f i) g tt (fun _=>.nilS) (evF n g (dnF n g (segN (mbF g) n) b 0)) (rfF n g (dnF n g (segN (mbF g) n) b 0)) (lnP n g b 0) (coP n g b 0) (ts.map F) 0 0 0 0 (evF n g (dnF n g (segN (mbF g) n) (b+1) 0)) (rfF n g (dnF n g (segN (mbF g) n) (b+1) 0)) (lnP n g (b+1) 0) (coP n g (b+1) 0))) a n (kkN n g) b (fun i=>canF n f i) g tt (fun _=>.nilS) (evF n g (dnF n g (segN (mbF g) n) b 0)) (rfF n g (dnF n g (segN (mbF g) n) b 0)) (lnP n g b 0) (coP n g b 0) ts (ts.map F) 0 0 0 0 (evF n g (dnF n g (segN (mbF g) n) (b+1) 0)) (rfF n g (dnF n g (segN (mbF g) n) (b+1) 0)) (lnP n g (b+1) 0) (coP n g (b+1) 0) hin (decide_eq_true hb)
  rw [hlc] at hw
  have hw:=hw (isP_true h1)
  have e:=evalF_leC (τ:=tab) (G:=Gl) (fn:=Try.f55) (CLe.refl (callT tb55)) (onP_le (k:=0) hL hL) _ hw
  rw [call14_55]
  exact inlF_sem (st:=⟨ts,(hpD a n f g tt b)⟩) (Γ:=cxOf Gl tb55 lps55) e rfl
theorem run14d (L:LT) (a:Int) (n:Nat) (f:Nat->E6) (hn:n <= 16) (g:Nat->E6) (tt:Int) (hk:∃ k,k < n ∧ mbF g k = true):∀ (e b:Nat) (j:Nat->V) (q:Nat),n = b+e->e < q ->
    (iterT (body14_6 L) (lp14_6 a n f) q (st14_6 a n f b (kkN n g) tt g (evF n g (dnF n g (segN (mbF g) n) b 0)) (rfF n g (dnF n g (segN (mbF g) n) b 0)) (lnP n g b 0) (coP n g b 0) j)).sem = some (en14_6e a n f n (kkN n g) tt g (evF n g (dnF n g (segN (mbF g) n) n 0)) (rfF n g (dnF n g (segN (mbF g) n) n 0)) (lnP n g n 0) (coP n g n 0))
  | 0,b,j,q+1,h,_=>by
    have:n = b:=by omega
    subst this
    rw [show body14_6 L = evalC tab ⟨call14,L,Gl⟩ (loopBody Try.f14 6) 6 from rfl]
    exact iter_round (rk14e L a n f n _ _ g _ _ _ _ j (ofNat_ge (Nat.le_refl _)))
  | e+1,b,j,q+1,h,h2=>by
    have hl:b < n:=by omega
    have hx:=back_wr (a:=b) (n:=n) (by omega) (by omega)
    have hlt:(b+(n - 1)) % n < n:=Nat.mod_lt _ (by omega)
    have hin:band (ile 0 (itmod (wr .i64 (isub (wr .i64 (iadd (ofNat b) (ofNat n))) 1)) (ofNat n))) (ilt (itmod (wr .i64 (isub (wr .i64 (iadd (ofNat b) (ofNat n))) 1)) (ofNat n)) (ofNat n)) = true:=by rw [hx]; exact ofNat_in hlt
    have hnl:nlt (toN (itmod (wr .i64 (isub (wr .i64 (iadd (ofNat b) (ofNat n))) 1)) (ofNat n))) n = true:=by rw [hx]; exact decide_eq_true hlt
    have next:=fun j=>run14d L a n f hn g tt hk e (b+1) j q (by omega) (by omega)
    cases hst:isSt (mbF g) n b with
    | false =>
      have hm:movB (g (toN (itmod (wr .i64 (isub (wr .i64 (iadd (ofNat b) (ofNat n))) 1)) (ofNat n)))) = false:=by rw [hx]; exact hst
      rw [show body14_6 L = evalC tab ⟨call14,L,Gl⟩ (loopBody Try.f14 6) 6 from rfl,iter_round (rk14n L a n f b (kkN n g) tt g (evF n g (dnF n g (segN (mbF g) n) b 0)) (rfF n g (dnF n g (segN (mbF g) n) b 0)) (lnP n g b 0) (coP n g b 0) j (ofNat_lt hl) (ieq0 (by omega)) hin hnl hm),goOn_nm,succ_wr hl (by omega)]
      have hd:dnF n g (segN (mbF g) n) b 0 = dnF n g (segN (mbF g) n) (b+1) 0:=by
        funext i
        unfold dnF
        by_cases hi:i < n
        · rw [done_skip hi hk hst]
        · rw [decide_eq_false hi]; rfl
      rw [hd,lnP_skip hst,coP_ln (lnP_skip hst)]
      exact next (fun _=>.und)
    | true =>
      have hm:movB (g (toN (itmod (wr .i64 (isub (wr .i64 (iadd (ofNat b) (ofNat n))) 1)) (ofNat n)))) = true:=by rw [hx]; exact hst
      obtain ⟨F,hF,hc⟩:=call55 a n f hn b g tt (ts14 n b g j) hl hst
      have hts:(ts14 n b g j).map F = sl14_6 n b (fun i=>F (nth (ts14 n b g j) i)):=by
        have:(ts14 n b g j).map F = slW (F (.ptr 0 0)) (F (nV n)) (F (.ptr 2 0)) (F (nV n)) (F (nV b)) (fun i=>F (nth (ts14 n b g j) i)):=ts14_map n b g j F
        rw [this,hF.2 0 0 (by omega),hF.2 2 0 (by omega)]
        (try unfold nV); unfold iV
        rw [hF.1,hF.1]
        rfl
      rw [hts] at hc
      have hr:=fun q55=>rk14w noLp a n f b (kkN n g) tt g (evF n g (dnF n g (segN (mbF g) n) b 0)) (rfF n g (dnF n g (segN (mbF g) n) b 0)) (lnP n g b 0) (coP n g b 0) (fun i=>F (nth (ts14 n b g j) i)) (evF n g (dnF n g (segN (mbF g) n) (b+1) 0)) (rfF n g (dnF n g (segN (mbF g) n) (b+1) 0)) (lnP n g (b+1) 0) (coP n g (b+1) 0) q55 j (ofNat_lt hl) (ieq0 (by omega)) hin hnl hm
      rw [ts14_eq] at hr
      have hr:=hr (isC call14 55 (.tup [],.all ⟨sl14_6 n b (fun i=>F (nth (ts14 n b g j) i)),(hpD a n f g tt (b+1)) ++ [Blk.dead]⟩)) (isC_true hc)
      have hr':=roundT_le (f':=body14_6 L) (l:=lp14_6 a n f) (evalC_leC (τ:=tab) (G:=Gl) (onC_le (CLe.refl call14)) (noLp_le L) (loopBody Try.f14 6) 6 (st14_6 a n f b (kkN n g) tt g (evF n g (dnF n g (segN (mbF g) n) b 0)) (rfF n g (dnF n g (segN (mbF g) n) b 0)) (lnP n g b 0) (coP n g b 0) j)) hr
      rw [iter_round hr',goOn_nm,succ_wr hl (by omega)]
      exact next (fun _=>.und)
def ttN (n:Nat) (g:Nat->E6):Nat:=cntB (obF g) n
def shapeV (a:Int) (n:Nat) (g:Nat->E6):V:=.agg [iV a,.ref 0,.ref 1,iV (ofNat (ttN n g)),iV (ofNat (kkN n g)),.ref 2,.jref 3]
def shapeH (n:Nat) (g:Nat->E6):List Blk:=[.row 44 6 n (fun i=>eV (g i)),.row 40 5 n (fun i=>evV (evF n g (fun _=>true) i)),.row 3 1 n (fun i=>iV (rfF n g (fun _=>true) i)),
  .jag ⟨25,1,kkN n g,fun _=>.und,0,3,1,fun _=>true,lnN (mbF g) (wrF g) n,fun k i=>iV (ofNat (coN (mbF g) (wrF g) n k i))⟩]
def noV:V:=.agg [iV 0,.ref 0,.ref 1,iV 0,iV 0,.ref 2,.jref 3]
def noH:List Blk:=[.row 44 6 0 (fun _=>.und),.row 40 5 0 (fun _=>.und),.row 3 1 0 (fun _=>.und),.jag ⟨25,1,0,fun _=>.und,0,3,1,fun _=>true,fun _=>0,fun _ _=>.und⟩]
def ofT:List V->T (V × List Blk)
  | [.val (.int .i64 a),v]=>apL v fun n f=>.br (fitN n) (.br (ieq (chkE a n f) 0) (.leaf (.tup [shapeV a n (shG n f),iV 0,iV 0],shapeH n (shG n f))) (.leaf (.tup [noV,iV (chkE a n f),iV (chkI a n f)],noH))) .fail
  | _=>.fail
theorem shG_out {n i:Nat} {f:Nat->E6} (h:i < n):shG n f i = canF n f ((shQ n f+i) % n):=by
  unfold shG cutE
  rw [decide_eq_true h]
  rfl
theorem isCycle_congr {a:Int} {n:Nat} {f g:Nat->E6} (h:IsCycle a n f) (he:∀ i,i < n->g i = f i):IsCycle a n g:=by
  have c1:∀ (p:E6->Bool) k,k <= n->cntB (fun i=>p (g i)) k = cntB (fun i=>p (f i)) k:=fun p k hk=>cnt_congr fun i hi=>by rw [he i (by omega)]
  have c2:∀ (p:E6->Bool) i,i < n->partF (fun k=>p (g k)) n i = partF (fun k=>p (f k)) n i:=fun p i hi=>by
    rw [partF_N hi,partF_N hi]
    unfold partN
    rw [c1 p i (by omega),c1 p n (Nat.le_refl _)]
  have hlo:=h.lo
  refine ⟨h.arch,h.lo,h.hi,fun i hi=>?_,fun i hi=>?_,?_,?_,fun i hi=>?_,fun i hi=>?_⟩
  · have:=h.legal i hi
    unfold badL at this ⊢
    rw [he i hi]
    exact this
  · have:=h.meets i hi
    unfold badM at this ⊢
    rw [he i hi,he _ (Nat.mod_lt _ (by omega))]
    exact this
  · rw [c1 outB n (Nat.le_refl _)]; exact h.outer
  · rw [c1 movB n (Nat.le_refl _)]; exact h.moves
  · have:=h.writes i hi
    unfold tooMany cntK at this ⊢
    have e:(fun i=>isW (g i)) i = (fun i=>isW (f i)) i:=by show isW (g i) = isW (f i); rw [he i hi]
    rw [e,c2 movB i hi,cnt_congr (q:=cntP (partF (fun k=>movB (f k)) n) (fun i=>isW (f i)) (partF (fun k=>movB (f k)) n i)) fun k hk=>by
      unfold cntP
      rw [c2 movB k hk]
      show band _ (isW (g k)) = band _ (isW (f k))
      rw [he k hk]]
    exact this
  · have:=h.crowd i hi
    unfold tooMany cntK at this ⊢
    rw [c2 outB i hi,cnt_congr (q:=cntP (partF (fun k=>outB (f k)) n) (fun _=>true) (partF (fun k=>outB (f k)) n i)) fun k hk=>by
      unfold cntP
      rw [c2 outB k hk]]
    exact this
theorem cnt_there {p:Nat->Bool}:∀ {n:Nat},0 < cntB p n->∃ k,k < n ∧ p k = true
  | 0,h=>by simp [cntB] at h
  | n+1,h=>by
    cases hp:p n with
    | true=>exact ⟨n,Nat.lt_succ_self n,hp⟩
    | false =>
      rw [cntB_f hp] at h
      obtain ⟨k,h1,h2⟩:=cnt_there h
      exact ⟨k,by omega,h2⟩
theorem cyc_canon {a:Int} {n:Nat} {f:Nat->E6} (h:IsCycle a n f):IsCycle a n (fun i=>canF n f i):=by
  have h1:=leastN_ok n (fun i=>codeN (f i))
  have h2:=h.lo
  exact h.turned (show leastN n (fun i=>codeN (f i)) < n by omega)
theorem shQ_ok {a:Int} {n:Nat} {f:Nat->E6} (h:IsCycle a n f):lstN (fun i=>outB (canF n f i)) n < n ∧ outB (canF n f (lstN (fun i=>outB (canF n f i)) n)) = true ∧ (∀ i,i < lstN (fun i=>outB (canF n f i)) n->outB (canF n f i) = false) ∧ shQ n f < n:=by
  have h2:=h.lo
  have h3:=(cyc_canon h).outer
  obtain ⟨k,h4,h5⟩:=cnt_there (p:=fun i=>outB (canF n f i)) (n:=n) (by omega)
  obtain ⟨h6,h7,h8⟩:=lstN_some (p:=fun i=>outB (canF n f i)) h4 h5
  exact ⟨by omega,h7,h8,Nat.mod_lt _ (by omega)⟩
theorem shG_cycle {a:Int} {n:Nat} {f:Nat->E6} (h:IsCycle a n f):IsCycle a n (shG n f) :=
  isCycle_congr ((cyc_canon h).turned (shQ_ok h).2.2.2) fun i hi=>shG_out hi
theorem shG_last {a:Int} {n:Nat} {f:Nat->E6} (h:IsCycle a n f):obF (shG n f) (n - 1) = true:=by
  obtain ⟨h1,h2,h3,h4⟩:=shQ_ok h
  have hlo:=h.lo
  unfold obF
  rw [shG_out (by omega)]
  have:(shQ n f+(n - 1)) % n = lstN (fun i=>outB (canF n f i)) n:=by
    unfold shQ
    rw [Nat.mod_add_mod,show lstN (fun i=>outB (canF n f i)) n+1+(n - 1) = lstN (fun i=>outB (canF n f i)) n+n by omega,Nat.add_mod_right,Nat.mod_eq_of_lt h1]
  rw [this]
  exact h2
theorem rN_all {p:Nat->Bool} {n:Nat} (h:2 <= cntB p n):rN p n n = cntB p n:=by
  have hn:0 < n:=by
    rcases Nat.eq_zero_or_pos n with h0 | h0
    · subst h0; simp [cntB] at h
    · exact h0
  have h1:=rN_eq p n (n - 1) (by omega)
  rw [show n - 1+1 = n by omega] at h1
  rw [h1]
  have h2:=cntB_step p (n - 1)
  rw [show n - 1+1 = n by omega] at h2
  split <;> omega
theorem loopZ_ok {Γ:Cx} {zs:List (Nat × List (Nat × V))} {loops:List (Nat × Lp)} (h:Γ.loop = loopsZ zs loops):LoopOK Γ:=fun id f st r hr=>by
  rw [h] at hr
  have by':∀ st,(loopsBy loops id f st).sem = some r->∃ l m,(iterT f l m st).sem = some r:=fun st hr=>by
    unfold loopsBy at hr
    split at hr
    · exact ⟨_,_,hr⟩
    · cases hr
  unfold loopsZ at hr
  split at hr
  · obtain ⟨l,m,h1⟩:=by' _ hr
    exact ⟨_,l,m,LE_fill _ _,h1⟩
  · obtain ⟨l,m,h1⟩:=by' _ hr
    exact ⟨_,l,m,LE.refl _,h1⟩
def zs14:List (Nat × List (Nat × V)):=[(2,[(3,eV zE)]),(4,[(4,evV ⟨0,0,0,0,0⟩),(5,iV (-1))]),(6,[(7,iV 0)])]
def lps14 (a:Int) (n:Nat) (f:Nat->E6):List (Nat × Lp):=[(0,lp14 a n f),(2,lp14_2 a n f),(4,lp14_4 a n f),(6,lp14_6 a n f)]
noncomputable def cx14 (a:Int) (n:Nat) (f:Nat->E6):Cx:=⟨call14,loopsZ zs14 (lps14 a n f),Gl⟩
theorem fill14_2 (a:Int) (n:Nat) (f:Nat->E6) (z:Nat) (j:Nat->V):fillS (st14_2 a n f z 0 (fun _=>.und) j) [(3,eV zE)] = st14_2 a n f z 0 (fun _=>eV zE) j:=by kernel_rfl
theorem fill14_4 (a:Int) (n:Nat) (f:Nat->E6) (z:Nat) (g:Nat->E6):fillS (ent14_4 a n f z g) [(4,evV ⟨0,0,0,0,0⟩),(5,iV (-1))] = st14_4 a n f 0 0 0 0 g (thF n g) (loF n g) (fun _=>-1) (fun _=>evV ⟨0,0,0,0,0⟩) (fun _=>0) (fun i=>nth (ent14_4 a n f z g).t i):=by kernel_rfl
theorem fill14_6 (a:Int) (n:Nat) (f:Nat->E6) (q m kk:Nat) (tt:Int) (g:Nat->E6) (th lo r:Nat->Int) (x:Nat->Ev5) (pl:Int->Int):fillS (ent14_6 a n f q m kk tt g th lo r x pl) [(7,iV 0)] = st14_6 a n f 0 kk tt g x r (fun _=>0) (fun _ _=>0) (fun i=>nth (ent14_6 a n f q m kk tt g th lo r x pl).t i):=by kernel_rfl
theorem upE_0 (G:Nat->E6):upE 0 G = fun _=>zE:=by funext i; simp [upE]
theorem upX_0 (n:Nat) (g:Nat->E6):upX n g 0 = fun _=>⟨0,0,0,0,0⟩:=by funext i; simp [upX]
theorem plM_0 (n:Nat) (g:Nat->E6):plM n g 0 = fun _=>0:=rfl
theorem dn_00 (n:Nat) (g:Nat->E6):dnF n g (segN (mbF g) n) 0 0 = fun _=>false:=by
  funext j
  unfold dnF
  rw [done_0]
  simp
theorem upX_all (n:Nat) (g:Nat->E6):upX n g n = evF n g (dnF n g (segN (mbF g) n) 0 0):=by
  rw [dn_00]
  funext i
  unfold upX
  by_cases hi:i < n
  · rw [decide_eq_true hi]; rfl
  · rw [decide_eq_false hi]
    unfold evF
    rw [decide_eq_false hi]
    rfl
theorem rf_00 (n:Nat) (g:Nat->E6):rfF n g (dnF n g (segN (mbF g) n) 0 0) = fun _=>-1:=by
  rw [dn_00]
  rfl
def rawH (n:Nat) (g:Nat->E6):List Blk:=[.row 44 6 n (fun i=>eV (g i)),.row 40 5 n (fun i=>evV (evF n g (dnF n g (segN (mbF g) n) n 0) i)),.row 3 1 n (fun i=>iV (rfF n g (dnF n g (segN (mbF g) n) n 0) i)),
  .jag ⟨25,1,kkN n g,fun _=>.nilS,0,3,1,fun _=>true,lnP n g n 0,fun k i=>iV (coP n g n 0 k i)⟩]
theorem raw_le {n:Nat} {g:Nat->E6} (hk:0 < kkN n g):RowsLE (rawH n g) (shapeH n g):=by
  have hn:0 < n:=by
    rcases Nat.eq_zero_or_pos n with h0 | h0
    · subst h0; simp [kkN,cntB] at hk
    · exact h0
  obtain ⟨k0,hk0,hm⟩:=cnt_there hk
  have hd:∀ i,i < n->dnF n g (segN (mbF g) n) n 0 i = true:=fun i hi=>by
    unfold dnF
    rw [decide_eq_true hi,done_all]
    · rfl
    · exact rnd_lt hn
  refine .cons (fun _ _=>rfl) (.cons (fun i hi=>?_) (.cons (fun i hi=>?_) (.consB (.jag (fun _ _=>.inr rfl) (fun _ _=>rfl) (fun k hk'=>?_) (fun k hk' q hq=>?_)) (.refl []))))
  · rw [evF_in hi,evF_in hi,hd i hi]
  · unfold rfF
    rw [hd i hi]
  · have hk':k < kkN n g:=hk'
    have:=(stN_spec hk').1
    show lnN _ _ n k = lnP n g n 0 k
    unfold lnP
    rw [if_pos hk',if_pos this]
  · have hk':k < kkN n g:=hk'
    have hq:q < lnP n g n 0 k:=hq
    show iV _ = iV _
    unfold coP
    rw [if_pos hq]
theorem told14 {a:Int} {n:Nat} {f:Nat->E6} (h8:fitN n = true) (hc:ieq (chkE a n f) 0 = true) :
    (finF (evalF tab (cx14 a n f) Try.f14 [iV a,edgesV n f] [])).sem = some (.tup [shapeV a n (shG n f),iV 0,iV 0],rawH n (shG n f)):=by
  have hy:=isCycle_of hc
  have hlo:=hy.lo
  have hhi:=hy.hi
  have hL:=loopsZ_le zs14 (lps14 a n f)
  obtain ⟨z1,z2,z3,z4⟩:=shQ_ok hy
  have hg:=shG_cycle hy
  have hko:rN (obF (shG n f)) n n = ttN n (shG n f):=rN_all hg.outer
  have hkm:rN (mbF (shG n f)) n n = kkN n (shG n f):=rN_all hg.moves
  have hkl:kkN n (shG n f) <= n:=cntB_le _ _
  have c1:band (ilt 0 (ofNat n)) (band (fit8 n) (mkOK 8 (ofNat n) (ofNat n))) = true:=by
    unfold band ilt fit8 mkOK
    simp only [Int.ofNat_eq_natCast,Bool.and_eq_true,decide_eq_true_eq]
    omega
  have c2:mkOK 24 (ofNat (kkN n (shG n f))) (ofNat (kkN n (shG n f))) = true:=by
    unfold mkOK
    simp only [Int.ofNat_eq_natCast,Bool.and_eq_true,decide_eq_true_eq]
    omega
  have hm:∃ k,k < n ∧ mbF (shG n f) k = true:=cnt_there (p:=mbF (shG n f)) (by have:=hg.moves; show 0 < cntB (fun k=>movB (shG n f k)) n; omega)
  unfold cx14
  refine told_le (onP_le (onP_le (onP_le (onP_le hL hL) hL) hL) hL) _ (w14o _ _ _ _ _ a n f (shQ n f) n (kkN n (shG n f)) (ofNat (ttN n (shG n f))) (shG n f) (thF n (shG n f)) (loF n (shG n f)) (fun _=>-1) (upX n (shG n f) n) (plM n (shG n f) n)
    (evF n (shG n f) (dnF n (shG n f) (segN (mbF (shG n f)) n) n 0)) (rfF n (shG n f) (dnF n (shG n f) (segN (mbF (shG n f)) n) n 0)) (lnP n (shG n f) n 0) (coP n (shG n f) n 0) h8 hc hy.may c1 rowsBare_iV c2 (isP_true ?_) (isP_true ?_) (isP_true ?_) (isP_true ?_))
  · show (iterT _ (lp14 a n f) (n+1) _).sem = _
    exact run14 _ a n f (by omega) _ z1 z2 z3 _ 0 _ (n+1) (Nat.zero_add _).symm (by omega)
  · show (iterT _ (lp14_2 a n f) (n+1) (fillS _ [(3,eV zE)])).sem = _
    rw [fill14_2]
    have h:=fun L j=>run14b L a n f hhi (shQ n f) z4 n 0 j (n+1) (by omega) (by omega)
    rw [upE_0] at h
    exact h _ _
  · show (iterT _ (lp14_4 a n f) (n+1) (fillS _ [(4,evV ⟨0,0,0,0,0⟩),(5,iV (-1))])).sem = _
    rw [fill14_4]
    have h:=fun L j=>run14c L a n f hhi (shG n f) n 0 j (n+1) (by omega) (by omega)
    rw [upX_0,plM_0,hko,hkm] at h
    exact h _ _
  · show (iterT _ (lp14_6 a n f) (n+1) (fillS _ [(7,iV 0)])).sem = _
    rw [fill14_6]
    have h:=fun L j=>run14d L a n f hhi (shG n f) (ofNat (ttN n (shG n f))) hm n 0 j (n+1) (by omega) (by omega)
    rw [<- upX_all,rf_00,lnP_0,coP_0] at h
    exact h _ _
theorem p14:PureC Try.prog Gl 14 ofT:=by
  refine pureC_intro tabOK mixed Try.func14 (by kernel_rfl) (by kernel_rfl) fun vs v h' h=>?_
  unfold ofT at h
  split at h
  · rename_i a u
    obtain ⟨n,f,ha,h1⟩:=apL_some h
    obtain ⟨h8,hq⟩:=sem_br_fail h1
    have hA:ArgLE [iV a,u] [iV a,edgesV n f]:=fun S w cs hv=>by
      obtain ⟨c,l,rfl,q1,d,l',rfl,q2,q3⟩:=hv
      exact ⟨c,_,rfl,q1,d,l',rfl,ha S w d q2,q3⟩
    have hx:CallOK Try.prog (cx14 a n f).base ∧ LoopOK (cx14 a n f):=⟨call14_ok,loopZ_ok rfl⟩
    cases hc:ieq (chkE a n f) 0 with
    | true =>
      rw [hc] at hq
      have:=sem_leaf hq
      simp only [Prod.mk.injEq] at this
      obtain ⟨rfl,rfl⟩:=this
      have hg:=shG_cycle (isCycle_of hc)
      have hm:=hg.moves
      exact ⟨_,cx14 a n f,_,hA,rfl,hx.1,hx.2,told14 h8 hc,raw_le (by show 0 < cntB (fun k=>movB (shG n f k)) n; omega)⟩
    | false =>
      rw [hc] at hq
      have:=sem_leaf hq
      simp only [Prod.mk.injEq] at this
      obtain ⟨rfl,rfl⟩:=this
      exact ⟨_,cx14 a n f,_,hA,rfl,hx.1,hx.2,w14e _ a n f h8 hc,RowsLE.refl _⟩
  · cases h
end Go.Proofs.Ytjhnfomefcngfaa.Sh
