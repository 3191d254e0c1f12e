/-
  Layer 7: the program's shape of a cycle. No conditions.
-/
import Derived.Test.YthlojajaenfidaaGreatDoorCyT
import Derived.Test.YthlojajaenfidaaGreatDoorCyU
namespace Go.Proofs.YthlojajaenfidaaGreatDoor.Sh
open Go.Sy Ed
open Int (ofNat)
set_option maxHeartbeats 1000000
set_option maxRecDepth 4000
noncomputable def AjE:List (Nat × (List V->T (V × List Blk))):=(11,Y3) :: (12,LX) :: (13,BE λe=>bV (Ax e)) :: (14,Aih) :: (15,BE λe=>bV (Aw e)) :: []
theorem Ac8:A8 Tryz.prog Gl AjE:=.cons p48 <| .cons p65 <| .cons p52 <| .cons p53 <| .cons p54 .nil
def Jp:List (Nat × Lp):=[(0,⟨(bmK 84 0 [0,1,4,5,6,7,23,24]),9,bmK 84 0 [],9,17⟩)]
noncomputable def CY:FuncId->List V->St->T (V × Res):=KX [(16,K2 tab (AN Gl Uj Jp) Tryz.f16)] (Ak AjE)
theorem Y8:Bg Tryz.prog ⟨CY,Gl⟩:=GK mixed (.cons rfl AI (AK We Jp).1 (AK We Jp).2 Tryz.func16 (by kernel_rfl) (by kernel_rfl) .nil) (DP rfl Ac8)
theorem Amw (L:LT) (a:Int) (n:Nat) (f:Nat->E6) (h0:Be n = true) (h1:ieq (BN a n f) 0 = false):(Au (Ah tab ⟨CY,L,Gl⟩ Tryz.f4 [iV a,.sl 6 n λi=>eV (f i)] [])).sem = some ((.tup [(.agg [(iV 0),(.ref 0),(.ref 1),(iV 0),(iV 0),(.ref 2),(.jref 3)]),(iV (BN a n f)),(iV (KT a n f))]),[(.row 57 6 0 (λ_=>.und)),(.row 61 5 0 (λ_=>.und)),r3Z,(.jag (Jag.mk 24 1 0 (λ_=>.und) 0 3 1 (λ_=>true) (λ_=>0) (λ_ _=>.und)))]):=by
 exact Aa (ks:=[kL n,kn h0,kN (kn h1)]) (by kernel_rfl)
def Aau (_:Int) (n:Nat) (_:Nat->E6):Lp:=⟨(bmK 164 0 [0,4,5,6,9,11,12,39,40]),2,bmK 164 0 [0,4,5,6,9,11,12],2,n+1⟩
def AcC (a:Int) (n:Nat) (f:Nat->E6) (b:Nat) (j:Nat->V):St:=⟨(jsV 164 0 j [(0,iV a),(4,.ptr 0 0),(5,iV 0),(6,iV 0),(9,.ref 1),(11,nV n),(12,iV 0),(39,nV n),(40,nV b)]),[c7Z,.row 57 6 n (λi=>eV (Bc n f i))]⟩
def PY (a:Int) (n:Nat) (f:Nat->E6) (b:Nat):Ex × St:=(.ex 0,⟨(jsV 164 0 (λ_=>.und) [(0,iV a),(4,.ptr 0 0),(5,iV 0),(6,iV 0),(9,.ref 1),(11,nV n),(12,nV b)]),[c7Z,.row 57 6 n (λi=>eV (Bc n f i))]⟩)
noncomputable def RG (L:LT):St->T (Ex × St):=λst=>AD tab ⟨CY,L,Gl⟩ (As Tryz.f4 0) 0 st
section
variable (L:LT) (a:Int) (n:Nat) (f:Nat->E6) (b:Nat)  (j:Nat->V)
include L a n f b j
theorem Akv (h0:ilt (ofNat b) (ofNat n) = true) (h13:ile 0 (ofNat b) = true) (h1:nlt b n = true) (h2:Ax (Bc n f b) = false):Ag (RG L) (Aau a n f) (AcC a n f b j) = some (.nm,⟨(jsV 164 0 (λ_=>.und) [(0,(iV a)),(4,(.ptr 0 0)),(5,(iV 0)),(6,(iV 0)),(9,(.ref 1)),(11,(nV n)),(12,(iV 0)),(39,(nV n)),(40,(iV (wr .i64 (Af (ofNat b) 1))))]),[c7Z,(.row 57 6 n (λi=>(eV (Bc n f i))))]⟩):=by
 exact Aa (ks:=[kn h0,kA (kn h13) (kn h0),kn h1,kn h2]) (by kernel_rfl)
theorem Aku (h0:ilt (ofNat b) (ofNat n) = true) (h14:ile 0 (ofNat b) = true) (h1:nlt b n = true) (h2:Ax (Bc n f b) = true) (h3:ieq (ofNat n) 0 = false):Ag (RG L) (Aau a n f) (AcC a n f b j) = some ((.ex 0),⟨(jsV 164 0 (λ_=>.und) [(0,(iV a)),(4,(.ptr 0 0)),(5,(iV 0)),(6,(iV 0)),(9,(.ref 1)),(11,(nV n)),(12,(iV (Ae (wr .i64 (Af (ofNat b) 1)) (ofNat n))))]),[c7Z,(.row 57 6 n (λi=>(eV (Bc n f i))))]⟩):=by
 exact Aa (ks:=[kn h0,kA (kn h14) (kn h0),kn h1,kn h2,kn h3]) (by kernel_rfl)
end
def Anj (a:Int) (n:Nat) (f:Nat->E6) :Nat->V:=lkV A7 [(1,(.sl 6 n (λi=>eV (f i)))),(7,(iV (BN a n f))),(8,(iV (KT a n f))),(10,(iV 0)),(21,(.tup [iV (BN a n f),iV (KT a n f)])),(22,(iV a)),(23,(.sl 6 n (λi=>eV (f i)))),(24,(.tup [iV (BN a n f),iV (KT a n f)])),(25,(iV (BN a n f))),(26,(iV (KT a n f))),(27,(iV (BN a n f))),(28,(bV (AG (ieq (BN a n f) 0)))),(32,(.tup [.ref 1,iV 0])),(33,(.sl 6 n (λi=>eV (f i)))),(34,(.tup [.ref 1,iV 0])),(35,(.ref 1)),(36,(iV 0)),(37,(.ref 1)),(38,(nV n))]
def NZ (_:Int) (n:Nat) (_:Nat->E6):Lp:=⟨(bmK 164 0 [0,4,5,6,9,11,12,14,55,56]),7,bmK 164 0 [0,4,5,6,11,14],7,n+1⟩
def L1 (a:Int) (n:Nat) (f:Nat->E6) (q b:Nat) (y:Nat->V) (j:Nat->V):St:=⟨(jsV 164 0 j [(0,iV a),(4,.ptr 0 0),(5,iV 0),(6,iV 0),(9,.ref 1),(11,nV n),(12,nV q),(14,.ptr 2 0),(55,nV n),(56,nV b)]),[c7Z,.row 57 6 n (λi=>eV (Bc n f i)),.cells [iV a,.ref 3,.ref 4,iV 0,iV 0,.ref 5,.jref 6],.row 57 6 b y,.row 61 5 0 (λ_=>.und),r3Z,.jag (Jag.mk 24 1 0 (λ_=>.und) 0 3 1 (λ_=>true) (λ_=>0) (λ_ _=>.und))]⟩
def IT (a:Int) (n:Nat) (f:Nat->E6) (_ b:Nat) (y:Nat->V):Ex × St:=(.ex 2,⟨(jsV 164 0 (λ_=>.und) [(0,iV a),(4,.ptr 0 0),(5,iV 0),(6,iV 0),(11,nV n),(14,.ptr 2 0)]),[c7Z,.row 57 6 n (λi=>eV (Bc n f i)),.cells [iV a,.ref 3,.ref 4,iV 0,iV 0,.ref 5,.jref 6],.row 57 6 b y,.row 61 5 0 (λ_=>.und),r3Z,.jag (Jag.mk 24 1 0 (λ_=>.und) 0 3 1 (λ_=>true) (λ_=>0) (λ_ _=>.und))]⟩)
noncomputable def Lf (L:LT):St->T (Ex × St):=λst=>AD tab ⟨CY,L,Gl⟩ (As Tryz.f4 2) 2 st
section
variable (L:LT) (a:Int) (n:Nat) (f:Nat->E6) (q b:Nat) (y:Nat->V)  (j:Nat->V)
include L a n f q b y j
theorem Akr (h0:ilt (ofNat b) (ofNat n) = false):Ag (Lf L) (NZ a n f) (L1 a n f q b y j) = some ((.ex 2),⟨(jsV 164 0 (λ_=>.und) [(0,(iV a)),(4,(.ptr 0 0)),(5,(iV 0)),(6,(iV 0)),(11,(nV n)),(14,(.ptr 2 0))]),[c7Z,(.row 57 6 n (λi=>(eV (Bc n f i)))),(.cells [(iV a),(.ref 3),(.ref 4),(iV 0),(iV 0),(.ref 5),(.jref 6)]),(.row 57 6 b y),(.row 61 5 0 (λ_=>.und)),r3Z,(.jag (Jag.mk 24 1 0 (λ_=>.und) 0 3 1 (λ_=>true) (λ_=>0) (λ_ _=>.und)))]⟩):=by
 exact Aa (ks:=[kn h0]) (by kernel_rfl)
theorem Akq (h0:ilt (ofNat b) (ofNat n) = true) (h1:ieq (ofNat n) 0 = false) (h13:Al (ile 0 (Ae (wr .i64 (Af (ofNat q) (ofNat b))) (ofNat n))) (ilt (Ae (wr .i64 (Af (ofNat q) (ofNat b))) (ofNat n)) (ofNat n)) = true) (h14:nlt (toN (Ae (wr .i64 (Af (ofNat q) (ofNat b))) (ofNat n))) n = true) (h15:Bx b 1 40 = true):Ag (Lf L) (NZ a n f) (L1 a n f q b y j) = some (.nm,⟨(jsV 164 0 (λ_=>.und) [(0,(iV a)),(4,(.ptr 0 0)),(5,(iV 0)),(6,(iV 0)),(9,(.ref 1)),(11,(nV n)),(12,(nV q)),(14,(.ptr 2 0)),(55,(nV n)),(56,(iV (wr .i64 (Af (ofNat b) 1))))]),[c7Z,(.row 57 6 n (λi=>(eV (Bc n f i)))),(.cells [(iV a),(.ref 3),(.ref 4),(iV 0),(iV 0),(.ref 5),(.jref 6)]),(.row 57 6 (Bd b 1) (A2 b y (eV (Bc n f (toN (Ae (wr .i64 (Af (ofNat q) (ofNat b))) (ofNat n))))))),(.row 61 5 0 (λ_=>.und)),r3Z,(.jag (Jag.mk 24 1 0 (λ_=>.und) 0 3 1 (λ_=>true) (λ_=>0) (λ_ _=>.und)))]⟩):=by
 exact Aa (ks:=[kn h0,kn h1,kn h13,kn h14,kn h15]) (by kernel_rfl)
end
def Aio (a:Int) (_:Nat) (_:Nat->E6) (_:Nat):Nat->V:=lkV A7 [(1,.und),(2,.und),(3,.und),(7,.und),(8,.und),(10,.und),(13,.und),(15,.und),(16,.und),(17,.und),(18,.und),(19,.und),(20,.und),(21,.und),(22,.und),(23,.und),(24,.und),(25,.und),(26,.und),(27,.und),(28,.und),(29,.und),(30,.und),(31,.und),(32,.und),(33,.und),(34,.und),(35,.und),(36,.und),(37,.und),(38,.und),(39,.und),(40,.und),(41,.und),(42,.und),(43,.und),(44,.und),(45,.und),(46,.und),(47,.und),(48,.und),(49,.und),(50,.und),(51,.und),(52,.und),(53,(iV a)),(54,(.agg [iV a,.nilS,.nilS,iV 0,iV 0,.nilS,.nilS])),(57,.und),(58,.und),(59,.und),(60,.und),(61,.und),(62,.und),(63,.und),(64,.und),(65,.und),(66,.und),(67,.und),(68,.und),(69,.und),(70,.und),(71,.und),(72,.und),(73,.und),(74,.und),(75,.und),(76,.und),(77,.und),(78,.und),(79,.und),(80,.und),(81,.und),(82,.und),(83,.und),(84,.und),(85,.und),(86,.und),(87,.und),(88,.und),(89,.und),(90,.und),(91,.und),(92,.und),(93,.und),(94,.und),(95,.und),(96,.und),(97,.und),(98,.und),(99,.und),(100,.und),(101,.und),(102,.und),(103,.und),(104,.und),(105,.und),(106,.und),(107,.und),(108,.und),(109,.und),(110,.und),(111,.und),(112,.und),(113,.und),(114,.und),(115,.und),(116,.und),(117,.und),(118,.und),(119,.und),(120,.und),(121,.und),(122,.und),(123,.und),(124,.und),(125,.und),(126,.und),(127,.und),(128,.und),(129,.und),(130,.und),(131,.und),(132,.und),(133,.und),(134,.und),(135,.und),(136,.und),(137,.und),(138,.und),(139,.und),(140,.und),(141,.und),(142,.und),(143,.und),(144,.und),(145,.und),(146,.und),(147,.und),(148,.und),(149,.und),(150,.und),(151,.und),(152,.und),(153,.und),(154,.und),(155,.und),(156,.und),(157,.und),(158,.und),(159,.und),(160,.und),(161,.und),(162,.und),(163,.und)]
def NY (_:Int) (n:Nat) (_:Nat->E6):Lp:=⟨(bmK 164 0 [0,4,5,6,11,14,16,17,18,80,81]),10,bmK 164 0 [4,5,6,11,14],7,n+1⟩
def Q7 (a:Int) (n:Nat) (f:Nat->E6) (b m:Nat) (tt kk:Int) (g:Nat->E6) (th lo r:Nat->Int) (x:Nat->V) (pl:Int->Int) (j:Nat->V):St:=⟨(jsV 164 0 j [(0,iV a),(4,.ptr 0 0),(5,iV 0),(6,iV 0),(11,nV n),(14,.ptr 2 0),(16,.ref 7),(17,.ref 8),(18,.ref 9),(80,nV n),(81,nV b)]),[c7Z,.row 57 6 n (λi=>eV (Bc n f i)),.cells [iV a,.ref 3,.ref 4,iV tt,iV kk,.ref 5,.jref 6],.row 57 6 n (λi=>eV (g i)),.row 61 5 b x,.row 3 1 b (λi=>iV (r i)),.jag (Jag.mk 24 1 0 (λ_=>.und) 0 3 1 (λ_=>true) (λ_=>0) (λ_ _=>.und)),.row 3 1 n (λk=>iV (th k)),.row 3 1 n (λk=>iV (lo k)),.imap 59 m pl]⟩
def IS (a:Int) (n:Nat) (f:Nat->E6) (b _:Nat) (tt kk:Int) (g:Nat->E6) (_ _ r:Nat->Int) (x:Nat->V) (_:Int->Int):Ex × St:=(.ex 4,⟨(jsV 164 0 (λ_=>.und) [(4,.ptr 0 0),(5,iV 0),(6,iV 0),(11,nV n),(14,.ptr 2 0)]),[c7Z,.row 57 6 n (λi=>eV (Bc n f i)),.cells [iV a,.ref 3,.ref 4,iV tt,iV kk,.ref 5,.jref 6],.row 57 6 n (λi=>eV (g i)),.row 61 5 b x,.row 3 1 b (λi=>iV (r i)),.jag (Jag.mk 24 1 0 (λ_=>.und) 0 3 1 (λ_=>true) (λ_=>0) (λ_ _=>.und))]⟩)
noncomputable def Le (L:LT):St->T (Ex × St):=λst=>AD tab ⟨CY,L,Gl⟩ (As Tryz.f4 4) 4 st
section
variable (L:LT) (a:Int) (n:Nat) (f:Nat->E6) (b m:Nat) (tt kk:Int) (g:Nat->E6) (th lo r:Nat->Int) (x:Nat->V) (pl:Int->Int)  (j:Nat->V)
include L a n f b m tt kk g th lo r x pl j
theorem Akp (h0:ilt (ofNat b) (ofNat n) = false):Ag (Le L) (NY a n f) (Q7 a n f b m tt kk g th lo r x pl j) = some ((.ex 4),⟨(jsV 164 0 (λ_=>.und) [(4,(.ptr 0 0)),(5,(iV 0)),(6,(iV 0)),(11,(nV n)),(14,(.ptr 2 0))]),[c7Z,(.row 57 6 n (λi=>(eV (Bc n f i)))),(.cells [(iV a),(.ref 3),(.ref 4),(iV tt),(iV kk),(.ref 5),(.jref 6)]),(.row 57 6 n (λi=>(eV (g i)))),(.row 61 5 b x),(.row 3 1 b (λi=>(iV (r i)))),(.jag (Jag.mk 24 1 0 (λ_=>.und) 0 3 1 (λ_=>true) (λ_=>0) (λ_ _=>.und)))]⟩):=by
 exact Aa (ks:=[kn h0]) (by kernel_rfl)
theorem Ako (h0:ilt (ofNat b) (ofNat n) = true) (h13:ile 0 (ofNat b) = true) (h1:nlt b n = true) (h2:Ff (th b) = true) (h14:Bx b 1 40 = true) (h15:nlt m 4611686018427387904 = true) (h16:Ff (wr .i64 (Af (pl (th b)) 1)) = true) (h17:Bx b 1 8 = true):Ag (Le L) (NY a n f) (Q7 a n f b m tt kk g th lo r x pl j) = some (.nm,⟨(jsV 164 0 (λ_=>.und) [(0,(iV a)),(4,(.ptr 0 0)),(5,(iV 0)),(6,(iV 0)),(11,(nV n)),(14,(.ptr 2 0)),(16,(.ref 7)),(17,(.ref 8)),(18,(.ref 9)),(80,(nV n)),(81,(iV (wr .i64 (Af (ofNat b) 1))))]),[c7Z,(.row 57 6 n (λi=>(eV (Bc n f i)))),(.cells [(iV a),(.ref 3),(.ref 4),(iV (sel (ilt tt (wr .i64 (Af (th b) 1))) (wr .i64 (Af (th b) 1)) tt)),(iV (sel (ilt kk (wr .i64 (Af (lo b) 1))) (wr .i64 (Af (lo b) 1)) kk)),(.ref 5),(.jref 6)]),(.row 57 6 n (λi=>(eV (g i)))),(.row 61 5 (Bd b 1) (A2 b x (.agg [(iV (th b)),(iV (pl (th b))),(iV ((g b)).src),(iV (lo b)),(iV 0)]))),(.row 3 1 (Bd b 1) (A2 b (λi=>(iV (r i))) (iV (-1)))),(.jag (Jag.mk 24 1 0 (λ_=>.und) 0 3 1 (λ_=>true) (λ_=>0) (λ_ _=>.und))),(.row 3 1 n (λk=>(iV (th k)))),(.row 3 1 n (λk=>(iV (lo k)))),(.imap 59 (Bd m 1) (λi=>(sel (ieq i (th b)) (wr .i64 (Af (pl (th b)) 1)) (pl i))))]⟩):=by
 exact Aa (ks:=[kn h0,kA (kn h13) (kn h0),kn h1,kA (kn h13) (kn h0),kn h1,kn h2,kA (kn h13) (kn h0),kn h1,kA (kn h13) (kn h0),kn h1,kn h14,kA (kn h13) (kn h0),kn h1,kn h2,kn h15,kn h2,kn h16,kA (kn h13) (kn h0),kn h1,kA (kn h13) (kn h0),kn h1,kn h17]) (by kernel_rfl)
end
def J6 (_:Int) (n:Nat) (_:Nat->E6):Lp:=⟨(bmK 164 0 [4,11,14,145,146]),8,bmK 164 0 [4,14],8,n+1⟩
def L0 (a:Int) (n:Nat) (f:Nat->E6) (b kk:Nat) (tt:Int) (g:Nat->E6) (x:Nat->Ev5) (r:Nat->Int) (ln:Nat->Nat) (co:Nat->Nat->Int) (j:Nat->V):St:=⟨(jsV 164 0 j [(4,.ptr 0 0),(11,nV n),(14,.ptr 2 0),(145,nV n),(146,nV b)]),[c7Z,.row 57 6 n (λi=>eV (Bc n f i)),.cells [iV a,.ref 3,.ref 4,iV tt,nV kk,.ref 5,.jref 7],.row 57 6 n (λi=>eV (g i)),.row 61 5 n (λi=>evV (x i)),.row 3 1 n (λi=>iV (r i)),.jag (Jag.mk 24 1 0 (λ_=>.und) 0 3 1 (λ_=>true) (λ_=>0) (λ_ _=>.und)),.jag (Jag.mk 24 1 kk (λ_=>.nilS) 0 3 1 (λ_=>true) ln (λi k=>iV (co i k)))]⟩
def IR (a:Int) (n:Nat) (f:Nat->E6) (_ kk:Nat) (tt:Int) (g:Nat->E6) (x:Nat->Ev5) (r:Nat->Int) (ln:Nat->Nat) (co:Nat->Nat->Int):Ex × St:=(.ex 6,⟨(jsV 164 0 (λ_=>.und) [(4,.ptr 0 0),(14,.ptr 2 0)]),[c7Z,.row 57 6 n (λi=>eV (Bc n f i)),.cells [iV a,.ref 3,.ref 4,iV tt,nV kk,.ref 5,.jref 7],.row 57 6 n (λi=>eV (g i)),.row 61 5 n (λi=>evV (x i)),.row 3 1 n (λi=>iV (r i)),.jag (Jag.mk 24 1 0 (λ_=>.und) 0 3 1 (λ_=>true) (λ_=>0) (λ_ _=>.und)),.jag (Jag.mk 24 1 kk (λ_=>.nilS) 0 3 1 (λ_=>true) ln (λi k=>iV (co i k)))]⟩)
def Ux (n b:Nat) (u:Nat->V):List V:=(jsV 164 0 u [(4,.ptr 0 0),(11,nV n),(14,.ptr 2 0),(145,nV n),(146,nV b)])
noncomputable def Iq (L:LT):St->T (Ex × St):=λst=>AD tab ⟨CY,L,Gl⟩ (As Tryz.f4 6) 6 st
section
variable (L:LT) (a:Int) (n:Nat) (f:Nat->E6) (b kk:Nat) (tt:Int) (g:Nat->E6) (x:Nat->Ev5) (r:Nat->Int) (ln:Nat->Nat) (co:Nat->Nat->Int)  (j:Nat->V)
include L a n f b kk tt g x r ln co j
theorem Ake (h0:ilt (ofNat b) (ofNat n) = false):(((AD tab ⟨CY,L,Gl⟩ (As Tryz.f4 6) 6 (L0 a n f b kk tt g x r ln co j)).bind λr=>T.leaf (MC (J6 a n f) r))).sem = some ((.ex 6),⟨(jsV 164 0 (λ_=>.und) [(4,(.ptr 0 0)),(14,(.ptr 2 0))]),[c7Z,(.row 57 6 n (λi=>(eV (Bc n f i)))),(.cells [(iV a),(.ref 3),(.ref 4),(iV tt),(nV kk),(.ref 5),(.jref 7)]),(.row 57 6 n (λi=>(eV (g i)))),(.row 61 5 n (λi=>(evV (x i)))),(.row 3 1 n (λi=>(iV (r i)))),(.jag (Jag.mk 24 1 0 (λ_=>.und) 0 3 1 (λ_=>true) (λ_=>0) (λ_ _=>.und))),(.jag (Jag.mk 24 1 kk (λ_=>.nilS) 0 3 1 (λ_=>true) ln (λi k=>(iV (co i k)))))]⟩):=by
 exact Aa (ks:=[kn h0]) (by kernel_rfl)
theorem Akd (h0:ilt (ofNat b) (ofNat n) = true) (h1:ieq (ofNat n) 0 = false) (h14:Al (ile 0 (Ae (wr .i64 (Az (wr .i64 (Af (ofNat b) (ofNat n))) 1)) (ofNat n))) (ilt (Ae (wr .i64 (Az (wr .i64 (Af (ofNat b) (ofNat n))) 1)) (ofNat n)) (ofNat n)) = true) (h15:nlt (toN (Ae (wr .i64 (Az (wr .i64 (Af (ofNat b) (ofNat n))) 1)) (ofNat n))) n = true) (h2:Aw (g (toN (Ae (wr .i64 (Az (wr .i64 (Af (ofNat b) (ofNat n))) 1)) (ofNat n)))) = false):(((AD tab ⟨CY,L,Gl⟩ (As Tryz.f4 6) 6 (L0 a n f b kk tt g x r ln co j)).bind λr=>T.leaf (MC (J6 a n f) r))).sem = some (.nm,⟨(jsV 164 0 (λ_=>.und) [(4,(.ptr 0 0)),(11,(nV n)),(14,(.ptr 2 0)),(145,(nV n)),(146,(iV (wr .i64 (Af (ofNat b) 1))))]),[c7Z,(.row 57 6 n (λi=>(eV (Bc n f i)))),(.cells [(iV a),(.ref 3),(.ref 4),(iV tt),(nV kk),(.ref 5),(.jref 7)]),(.row 57 6 n (λi=>(eV (g i)))),(.row 61 5 n (λi=>(evV (x i)))),(.row 3 1 n (λi=>(iV (r i)))),(.jag (Jag.mk 24 1 0 (λ_=>.und) 0 3 1 (λ_=>true) (λ_=>0) (λ_ _=>.und))),(.jag (Jag.mk 24 1 kk (λ_=>.nilS) 0 3 1 (λ_=>true) ln (λi k=>(iV (co i k)))))]⟩):=by
 exact Aa (ks:=[kn h0,kn h1,kn h14,kn h15,kn h2]) (by kernel_rfl)
end
theorem Akc (L:LT) (a:Int) (n:Nat) (f:Nat->E6) (b kk:Nat) (tt:Int) (g:Nat->E6) (x:Nat->Ev5) (r:Nat->Int) (ln:Nat->Nat) (co:Nat->Nat->Int) (u:Nat->V) (x':Nat->Ev5) (r':Nat->Int) (ln':Nat->Nat) (co':Nat->Nat->Int) (q55:List V->St->Bool) (j:Nat->V) (h0:ilt (ofNat b) (ofNat n) = true) (h1:ieq (ofNat n) 0 = false) (h14:Al (ile 0 (Ae (wr .i64 (Az (wr .i64 (Af (ofNat b) (ofNat n))) 1)) (ofNat n))) (ilt (Ae (wr .i64 (Az (wr .i64 (Af (ofNat b) (ofNat n))) 1)) (ofNat n)) (ofNat n)) = true) (h15:nlt (toN (Ae (wr .i64 (Az (wr .i64 (Af (ofNat b) (ofNat n))) 1)) (ofNat n))) n = true) (h2:Aw (g (toN (Ae (wr .i64 (Az (wr .i64 (Af (ofNat b) (ofNat n))) 1)) (ofNat n)))) = true) (hq55:(q55 [(.ptr 2 0),(nV b)] ⟨(jsV 164 0 j [(4,(.ptr 0 0)),(11,(nV n)),(14,(.ptr 2 0)),(20,(nV b)),(145,(nV n)),(146,(nV b)),(147,(bV (ilt (ofNat b) (ofNat n)))),(148,(nV b)),(149,(.ptr 2 1)),(150,(.ref 3)),(151,(nV b)),(152,(nV n)),(153,(iV (wr .i64 (Af (ofNat b) (ofNat n))))),(154,(iV (wr .i64 (Az (wr .i64 (Af (ofNat b) (ofNat n))) 1)))),(155,(nV n)),(156,(iV (Ae (wr .i64 (Az (wr .i64 (Af (ofNat b) (ofNat n))) 1)) (ofNat n)))),(157,(.ept 3 6 (toN (Ae (wr .i64 (Az (wr .i64 (Af (ofNat b) (ofNat n))) 1)) (ofNat n))) 0)),(158,(eV (g (toN (Ae (wr .i64 (Az (wr .i64 (Af (ofNat b) (ofNat n))) 1)) (ofNat n)))))),(159,(bV (Aw (g (toN (Ae (wr .i64 (Az (wr .i64 (Af (ofNat b) (ofNat n))) 1)) (ofNat n))))))),(160,(nV b))]),[c7Z,(.row 57 6 n (λi=>(eV (Bc n f i)))),(.cells [(iV a),(.ref 3),(.ref 4),(iV tt),(nV kk),(.ref 5),(.jref 7)]),(.row 57 6 n (λi=>(eV (g i)))),(.row 61 5 n (λi=>(evV (x i)))),(.row 3 1 n (λi=>(iV (r i)))),(.jag (Jag.mk 24 1 0 (λ_=>.und) 0 3 1 (λ_=>true) (λ_=>0) (λ_ _=>.und))),(.jag (Jag.mk 24 1 kk (λ_=>.nilS) 0 3 1 (λ_=>true) ln (λi k=>(iV (co i k)))))]⟩) = true):(((AD tab ⟨(onC 16 q55 (.tup [],.all ⟨Ux n b u,[c7Z,(.row 57 6 n (λi=>eV (Bc n f i))),(.cells [(iV a),(.ref 3),(.ref 4),(iV tt),(nV kk),(.ref 5),(.jref 7)]),(.row 57 6 n (λi=>(eV (g i)))),(.row 61 5 n (λi=>evV (x' i))),(.row 3 1 n (λi=>iV (r' i))),(.jag (Jag.mk 24 1 0 (λ_=>.und) 0 3 1 (λ_=>true) (λ_=>0) (λ_ _=>.und))),(.jag (Jag.mk 24 1 kk (λ_=>.nilS) 0 3 1 (λ_=>true) ln' (λi k=>iV (co' i k))))] ++ [.dead]⟩) (CY)),L,Gl⟩ (As Tryz.f4 6) 6 (L0 a n f b kk tt g x r ln co j)).bind λr=>T.leaf (MC (J6 a n f) r))).sem = some (.nm,⟨(jsV 164 0 (λ_=>.und) [(4,(.ptr 0 0)),(11,(nV n)),(14,(.ptr 2 0)),(145,(nV n)),(146,(iV (wr .i64 (Af (ofNat b) 1))))]),[c7Z,(.row 57 6 n (λi=>(eV (Bc n f i)))),(.cells [(iV a),(.ref 3),(.ref 4),(iV tt),(nV kk),(.ref 5),(.jref 7)]),(.row 57 6 n (λi=>(eV (g i)))),(.row 61 5 n (λi=>(evV (x' i)))),(.row 3 1 n (λi=>(iV (r' i)))),(.jag (Jag.mk 24 1 0 (λ_=>.und) 0 3 1 (λ_=>true) (λ_=>0) (λ_ _=>.und))),(.jag (Jag.mk 24 1 kk (λ_=>.nilS) 0 3 1 (λ_=>true) ln' (λi k=>(iV (co' i k)))))]⟩):=by
 exact Aa (ks:=[kn h0,kn h1,kn h14,kn h15,kn h2,kn hq55]) (by kernel_rfl)
def R7 (a:Int) (n:Nat) (f:Nat->E6) (_:Nat) (g:Nat->E6):St:=⟨(jsV 164 0 (λ_=>.und) [(0,(iV a)),(4,(.ptr 0 0)),(5,(iV 0)),(6,(iV 0)),(11,(nV n)),(14,(.ptr 2 0)),(16,(.ref 7)),(17,(.ref 8)),(18,(.ref 9)),(73,(.ptr 2 1)),(74,(.ref 3)),(75,(.ref 7)),(76,(.ptr 2 1)),(77,(.ref 3)),(78,(.ref 8)),(79,(.ref 9)),(80,(nV n)),(81,(iV 0))]),[c7Z,.row 57 6 n (λi=>eV (Bc n f i)),.cells [iV a,.ref 3,.ref 4,iV 0,iV 0,.ref 5,.jref 6],.row 57 6 n (λi=>eV (g i)),.row 61 5 0 (λ_=>.und),r3Z,.jag (Jag.mk 24 1 0 (λ_=>.und) 0 3 1 (λ_=>true) (λ_=>0) (λ_ _=>.und)),.row 3 1 n (λk=>iV (Ay (λk=>Ax (g k)) n k)),.row 3 1 n (λk=>iV (Ay (λk=>Aw (g k)) n k)),.imap 59 0 (λ_=>0)]⟩
def R6 (a:Int) (n:Nat) (f:Nat->E6) (_ _ kk:Nat) (tt:Int) (g:Nat->E6) (_ _ r:Nat->Int) (x:Nat->Ev5) (_:Int->Int):St:=⟨(jsV 164 0 (λ_=>.und) [(4,(.ptr 0 0)),(5,(iV 0)),(6,(iV 0)),(11,(nV n)),(14,(.ptr 2 0)),(141,(.ptr 2 4)),(142,(nV kk)),(143,(.jref 7)),(144,(.ptr 2 6)),(145,(nV n)),(146,(iV 0))]),[c7Z,.row 57 6 n (λi=>eV (Bc n f i)),.cells [iV a,.ref 3,.ref 4,iV tt,nV kk,.ref 5,.jref 7],.row 57 6 n (λi=>eV (g i)),.row 61 5 n (λi=>evV (x i)),.row 3 1 n (λi=>iV (r i)),.jag (Jag.mk 24 1 0 (λ_=>.und) 0 3 1 (λ_=>true) (λ_=>0) (λ_ _=>.und)),.jag (Jag.mk 24 1 kk (λ_=>.nilS) 0 3 1 (λ_=>true) (λ_=>0) (λ_ _=>.und))]⟩
theorem Amv (L:LT) (p0:PT) (p2:PT) (p4:PT) (p6:PT) (a:Int) (n:Nat) (f:Nat->E6) (q m kk:Nat) (tt:Int) (g:Nat->E6) (th lo r:Nat->Int) (x:Nat->Ev5) (pl:Int->Int) (x':Nat->Ev5) (r':Nat->Int) (ln':Nat->Nat) (co':Nat->Nat->Int) (h0:Be n = true) (h1:ieq (BN a n f) 0 = true) (h2:BR n f = true) (h3:Al (ilt 0 (ofNat n)) (Al (Dv n) (C5 8 (ofNat n) (ofNat n))) = true) (h15:Bk [.row 3 1 n (λ_=>iV 0)] = true) (h4:C5 24 (ofNat kk) (ofNat kk) = true) (hp0:p0 (RG (onP 0 p0 (PY a n f q) (onP 2 p2 (IT a n f q n (λi=>eV (g i))) (onP 4 p4 (IS a n f n m tt (ofNat kk) g th lo r (λi=>evV (x i)) pl) (onP 6 p6 (IR a n f n kk tt g x' r' ln' co') L))))) (AcC a n f 0 (Anj a n f )) = true) (hp2:p2 (Lf (onP 0 p0 (PY a n f q) (onP 2 p2 (IT a n f q n (λi=>eV (g i))) (onP 4 p4 (IS a n f n m tt (ofNat kk) g th lo r (λi=>evV (x i)) pl) (onP 6 p6 (IR a n f n kk tt g x' r' ln' co') L))))) (L1 a n f q 0 (λ_=>.und) (Aio a n f q)) = true) (hp4:p4 (Le (onP 0 p0 (PY a n f q) (onP 2 p2 (IT a n f q n (λi=>eV (g i))) (onP 4 p4 (IS a n f n m tt (ofNat kk) g th lo r (λi=>evV (x i)) pl) (onP 6 p6 (IR a n f n kk tt g x' r' ln' co') L))))) (R7 a n f q g) = true) (hp6:p6 (Iq (onP 0 p0 (PY a n f q) (onP 2 p2 (IT a n f q n (λi=>eV (g i))) (onP 4 p4 (IS a n f n m tt (ofNat kk) g th lo r (λi=>evV (x i)) pl) (onP 6 p6 (IR a n f n kk tt g x' r' ln' co') L))))) (R6 a n f q m kk tt g th lo r x pl) = true):(Au (Ah tab ⟨CY,(onP 0 p0 (PY a n f q) (onP 2 p2 (IT a n f q n (λi=>eV (g i))) (onP 4 p4 (IS a n f n m tt (ofNat kk) g th lo r (λi=>evV (x i)) pl) (onP 6 p6 (IR a n f n kk tt g x' r' ln' co') L)))),Gl⟩ Tryz.f4 [iV a,.sl 6 n λi=>eV (f i)] [])).sem = some ((.tup [(.agg [(iV a),(.ref 0),(.ref 1),(iV tt),(nV kk),(.ref 2),(.jref 3)]),(iV 0),(iV 0)]),[(.row 57 6 n (λi=>(eV (g i)))),(.row 61 5 n (λi=>(evV (x' i)))),(.row 3 1 n (λi=>(iV (r' i)))),(.jag (Jag.mk 24 1 kk (λ_=>.nilS) 0 3 1 (λ_=>true) ln' (λi k=>(iV (co' i k)))))]):=by
 exact Aa (ks:=[kL n,kn h0,kN (kn h1),kL n,kn h0,kn h2,kn hp0,kn hp2,kT,kL n,kn h3,kn h15,kT,kL n,kn h3,kn h15,kn hp4,kn h4,kn hp6]) (by kernel_rfl)
def Adf:LT:=λ_ _ _=>.fail
theorem WB (L:LT):LLe Adf L:=λ_ _ _ _ _ _ h=>by cases h
def zE:E6:=⟨0,false,false,0,0,0⟩
def AdT (n:Nat) (G:Nat->E6) (i:Nat):E6:=bif decide (i < n) then G i else zE
def shQ (n:Nat) (f:Nat->E6):Nat:=(Fb (λi=>Ax (Bc n f i)) n+1) % n
def shG (n:Nat) (f:Nat->E6):Nat->E6:=AdT n λi=>Bc n f ((shQ n f+i) % n)
theorem Ae1 (L:LT) (a:Int) (n:Nat) (f:Nat->E6) (hn:n <= 4611686018427387903) (k:Nat) (hk:k < n) (ht:Ax (Bc n f k) = true) (hb:∀ i,i < k->Ax (Bc n f i) = false):∀ (e b:Nat) (j:Nat->V) (q:Nat),k = b+e->e < q ->
  (AA (RG L) (Aau a n f) q (AcC a n f b j)).sem = some (PY a n f ((k+1) % n))
 | 0,b,j,q+1,h,_=>by
  have:k = b:=by omega
  subst this
  rw [Ab (Aku L a n f k j (ofNat_lt hk) (AE k) (decide_eq_true hk) ht (F3 (by omega))),Ry,An hk (by omega),Cu]
  rfl
 | e+1,b,j,q+1,h,h2=>by
  have hl:b < n:=by omega
  rw [Ab (Akv L a n f b j (ofNat_lt hl) (AE b) (decide_eq_true hl) (hb b (by omega))),Aq,An hl (by omega)]
  exact Ae1 L a n f hn k hk ht hb e (b+1) (λ_=>.und) q (by omega) (by omega)
def upE (b:Nat) (G:Nat->E6) (i:Nat):E6:=bif decide (i < b) then G i else zE
theorem YO (b:Nat) (G:Nat->E6):A2 b (λi=>eV (upE b G i)) (eV (G b)) = λi=>eV (upE (b+1) G i):=by
 funext k
 rw [Bl,show Nat.beq k b = decide (k = b) by rw [Bool.eq_iff_iff]; simp]
 unfold upE
 by_cases h:k = b
 ·subst h; simp
 ·by_cases h2:k < b
  ·have:k < b+1:=by omega
   simp [h,h2,this]
  ·have:¬ k < b+1:=by omega
   simp [h,h2,this]
theorem ZF (L:LT) (a:Int) (n:Nat) (f:Nat->E6) (hn:n <= 16) (z:Nat) (hz:z < n):∀ (e b:Nat) (j:Nat->V) (q:Nat),n = b+e->e < q ->
  (AA (Lf L) (NZ a n f) q (L1 a n f z b (λi=>eV (upE b (λi=>Bc n f ((z+i) % n)) i)) j)).sem = some (IT a n f z n (λi=>eV (upE n (λi=>Bc n f ((z+i) % n)) i)))
 | 0,b,j,q+1,h,_=>by
  have:n = b:=by omega
  subst this
  exact Ab (Akr L a n f z n _ j (A9 (Nat.le_refl _)))
 | e+1,b,j,q+1,h,h2=>by
  have hl:b < n:=by omega
  have hI:Ae (wr .i64 (Af (ofNat z) (ofNat b))) (ofNat n) = ofNat ((z+b) % n):=by rw [Dm (by omega),Cu]
  have hlt:(z+b) % n < n:=Nat.mod_lt _ (by omega)
  rw [Ab (Akq L a n f z b _ j (ofNat_lt hl) (F3 (by omega)) (by rw [hI]; exact Ap hlt) (by rw [hI]; exact decide_eq_true hlt) (BM (by omega))),Aq,hI,An hl (by omega),show toN (ofNat ((z+b) % n)) = (z+b) % n from rfl,
   show Bc n f ((z+b) % n) = (λi=>Bc n f ((z+i) % n)) b from rfl,YO]
  exact ZF L a n f hn z hz e (b+1) (λ_=>.und) q (by omega) (by omega)
def upX (n:Nat) (g:Nat->E6) (b i:Nat):Ev5:=bif decide (i < b) then evF n g (λ_=>false) i else ⟨0,0,0,0,0⟩
theorem RS (n:Nat) (g:Nat->E6) (b:Nat):A2 b (λi=>evV (upX n g b i)) (evV (evF n g (λ_=>false) b)) = λi=>evV (upX n g (b+1) i):=by
 funext k
 rw [Bl,show Nat.beq k b = decide (k = b) by rw [Bool.eq_iff_iff]; simp]
 unfold upX
 by_cases h:k = b
 ·subst h; simp
 ·by_cases h2:k < b
  ·have:k < b+1:=by omega
   simp [h,h2,this]
  ·have:¬ k < b+1:=by omega
   simp [h,h2,this]
theorem Ea (b:Nat) (v:V):A2 b (λ_=>v) v = λ_=>v:=by
 funext k
 rw [Bl]
 cases Nat.beq k b <;> rfl
def plM (n:Nat) (g:Nat->E6) (b:Nat) (x:Int):Int:=ofNat (Aj (λk=>ieq x (thF n g k)) b)
theorem AhY (n:Nat) (g:Nat->E6) {b:Nat} (hb:b < n) (hn:n <= 16):(λi=>sel (ieq i (thF n g b)) (wr .i64 (Af (plM n g b (thF n g b)) 1)) (plM n g b i)) = plM n g (b+1):=by
 funext i
 have hc:=AV (λk=>ieq (thF n g b) (thF n g k)) b
 unfold plM
 rw [An (n:=n) (by omega) (by omega)]
 cases h:ieq i (thF n g b) with
 | true =>
  have:=CC h
  subst this
  rw [Bi h]
  rfl
 | false =>
  rw [B5 h]
  rfl
theorem AeC {p:Nat->Bool} {n b:Nat} (hb:b < n) (hn:n <= 16):sel (ilt (ofNat (rN p n b)) (wr .i64 (Af (Ay p n b) 1))) (wr .i64 (Af (Ay p n b) 1)) (ofNat (rN p n b)) = ofNat (rN p n (b+1)):=by
 have h1:=Kj p n b hb
 have h2:=S6 p n b
 rw [FL hb,An (n:=n) (by omega) (by omega),Cf,rN]
 by_cases h:AU p n b < rN p n b
 ·rw [if_pos h,decide_eq_false (by omega)]; rfl
 ·rw [if_neg h,decide_eq_true (by omega)]
  show ofNat (AU p n b+1) = _
  rw [show AU p n b = rN p n b by omega]
theorem ZE (L:LT) (a:Int) (n:Nat) (f:Nat->E6) (hn:n <= 16) (g:Nat->E6):∀ (e b:Nat) (j:Nat->V) (q:Nat),n = b+e->e < q ->
  (AA (Le L) (NY a n f) q (Q7 a n f b b (ofNat (rN (obF g) n b)) (ofNat (rN (mbF g) n b)) g (thF n g) (loF n g) (λ_=>-1) (λi=>evV (upX n g b i)) (plM n g b) j)).sem = some (IS a n f n n (ofNat (rN (obF g) n n)) (ofNat (rN (mbF g) n n)) g (thF n g) (loF n g) (λ_=>-1) (λi=>evV (upX n g n i)) (plM n g n))
 | 0,b,j,q+1,h,_=>by
  have:n = b:=by omega
  subst this
  exact Ab (Akp L a n f n n _ _ g _ _ _ _ _ j (A9 (Nat.le_refl _)))
 | e+1,b,j,q+1,h,h2=>by
  have hl:b < n:=by omega
  have hth:thF n g b = ofNat (AU (obF g) n b):=FL hl
  have hpn:=NF (p:=obF g) (n:=n) (k:=b) (by omega)
  have hcn:=AV (obF g) n
  have hc:=AV (λk=>ieq (thF n g b) (thF n g k)) b
  have fit:∀ k:Nat,k <= 100->Ff (ofNat k) = true:=λk hk=>by
   unfold Ff
   rw [decide_eq_true (by simp only [Int.ofNat_eq_natCast]; omega),decide_eq_true (by simp only [Int.ofNat_eq_natCast]; omega)]
   rfl
  rw [Ab (Ako L a n f b b _ _ g _ _ _ _ _ j (ofNat_lt hl) (AE b) (decide_eq_true hl) (by rw [hth]; exact fit _ (by omega)) (BM (by omega)) (decide_eq_true (by omega)) (by unfold plM; rw [An (n:=n) (by omega) (by omega)]; exact fit _ (by omega)) (BM (by omega))),Aq,An hl (by omega)]
  have hx:=RS n g b
  rw [show evV (evF n g (λ_=>false) b) = .agg [iV (thF n g b),iV (plM n g b (thF n g b)),iV (g b).src,iV (loF n g b),iV 0] by rw [CF hl]; rfl] at hx
  rw [hx,Ea,AhY n g hl hn]
  have m1:=AeC (p:=obF g) hl hn
  have m2:=AeC (p:=mbF g) hl hn
  have m1:sel (ilt (ofNat (rN (obF g) n b)) (wr .i64 (Af (thF n g b) 1))) (wr .i64 (Af (thF n g b) 1)) (ofNat (rN (obF g) n b)) = ofNat (rN (obF g) n (b+1)):=m1
  have m2:sel (ilt (ofNat (rN (mbF g) n b)) (wr .i64 (Af (loF n g b) 1))) (wr .i64 (Af (loF n g b) 1)) (ofNat (rN (mbF g) n b)) = ofNat (rN (mbF g) n (b+1)):=m2
  rw [m1,m2]
  exact ZE L a n f hn g e (b+1) (λ_=>.und) q (by omega) (by omega)
def slW (w4 w11 w14 w145 w146:V) (u:Nat->V):List V:=(jsV 164 0 u [(4,w4),(11,w11),(14,w14),(145,w145),(146,w146)])
def OS (n b:Nat) (g:Nat->E6) (j:Nat->V):List V:=(jsV 164 0 j [(4,(.ptr 0 0)),(11,(nV n)),(14,(.ptr 2 0)),(20,(nV b)),(145,(nV n)),(146,(nV b)),(147,(bV (ilt (ofNat b) (ofNat n)))),(148,(nV b)),(149,(.ptr 2 1)),(150,(.ref 3)),(151,(nV b)),(152,(nV n)),(153,(iV (wr .i64 (Af (ofNat b) (ofNat n))))),(154,(iV (wr .i64 (Az (wr .i64 (Af (ofNat b) (ofNat n))) 1)))),(155,(nV n)),(156,(iV (Ae (wr .i64 (Az (wr .i64 (Af (ofNat b) (ofNat n))) 1)) (ofNat n)))),(157,(.ept 3 6 (toN (Ae (wr .i64 (Az (wr .i64 (Af (ofNat b) (ofNat n))) 1)) (ofNat n))) 0)),(158,(eV (g (toN (Ae (wr .i64 (Az (wr .i64 (Af (ofNat b) (ofNat n))) 1)) (ofNat n)))))),(159,(bV (Aw (g (toN (Ae (wr .i64 (Az (wr .i64 (Af (ofNat b) (ofNat n))) 1)) (ofNat n))))))),(160,(nV b))])
theorem Acd (n b:Nat) (g:Nat->E6) (j:Nat->V):(jsV 164 0 j [(4,(.ptr 0 0)),(11,(nV n)),(14,(.ptr 2 0)),(20,(nV b)),(145,(nV n)),(146,(nV b)),(147,(bV (ilt (ofNat b) (ofNat n)))),(148,(nV b)),(149,(.ptr 2 1)),(150,(.ref 3)),(151,(nV b)),(152,(nV n)),(153,(iV (wr .i64 (Af (ofNat b) (ofNat n))))),(154,(iV (wr .i64 (Az (wr .i64 (Af (ofNat b) (ofNat n))) 1)))),(155,(nV n)),(156,(iV (Ae (wr .i64 (Az (wr .i64 (Af (ofNat b) (ofNat n))) 1)) (ofNat n)))),(157,(.ept 3 6 (toN (Ae (wr .i64 (Az (wr .i64 (Af (ofNat b) (ofNat n))) 1)) (ofNat n))) 0)),(158,(eV (g (toN (Ae (wr .i64 (Az (wr .i64 (Af (ofNat b) (ofNat n))) 1)) (ofNat n)))))),(159,(bV (Aw (g (toN (Ae (wr .i64 (Az (wr .i64 (Af (ofNat b) (ofNat n))) 1)) (ofNat n))))))),(160,(nV b))]) = OS n b g j:=rfl
theorem YS (n b:Nat) (g:Nat->E6) (j:Nat->V) (F:V->V):(OS n b g j).map F = slW (F (.ptr 0 0)) (F (nV n)) (F (.ptr 2 0)) (F (nV n)) (F (nV b)) (λi=>F (nth (OS n b g j) i)):=by kernel_rfl
def hpD (a:Int) (n:Nat) (f:Nat->E6) (g:Nat->E6) (tt:Int) (b:Nat):List Blk:=[c7Z,.row 57 6 n (λi=>eV (Bc n f i)),.cells [iV a,.ref 3,.ref 4,iV tt,iV (ofNat (kkN n g)),.ref 5,.jref 7],.row 57 6 n (λi=>eV (g i)),.row 61 5 n (λi=>evV (evF n g (dnF n g (Bv (mbF g) n) b 0) i)),.row 3 1 n (λi=>iV (rfF n g (dnF n g (Bv (mbF g) n) b 0) i)),.jag (Jag.mk 24 1 0 (λ_=>.und) 0 3 1 (λ_=>true) (λ_=>0) (λ_ _=>.und)),.jag (Jag.mk 24 1 (kkN n g) (λ_=>.nilS) 0 3 1 (λ_=>true) (lnP n g b 0) (λi k=>iV (coP n g b 0 i k)))]
theorem Y9 (vs:List V) (st:St):CY 16 vs st = K2 tab (AN Gl Uj Jp) Tryz.f16 vs st:=by kernel_rfl
theorem Tc {τ:List Ty} {Γ:Cx} {fn:Func} {vs:List V} {st:St} {p:V × List Blk} {t:List V} (h:(Ah τ Γ fn vs (st.h ++ [.saved st.t])).sem = some p) (hp:p.2[st.h.length]? = some (.saved t)) :
  (K2 τ Γ fn vs st).sem = some (p.1,.all ⟨t,p.2.set st.h.length .dead⟩):=by
 unfold K2
 rw [Fw,h]
 show (match p.2[st.h.length]? with | some (.saved t)=>T.leaf (p.1,Res.all ⟨t,p.2.set st.h.length .dead⟩) | _=>.fail).sem = _
 rw [hp]
 rfl
theorem AiC (a:Int) (n:Nat) (f:Nat->E6) (hn:n <= 16) (b:Nat) (g:Nat->E6) (tt:Int) (ts:List V) (hb:b < n) (hst:CB (mbF g) n b = true):∃ F,Gu F ∧
  (CY 16 [.ptr 2 0,nV b] ⟨ts,(hpD a n f g tt b)⟩).sem = some (.tup [],.all ⟨ts.map F,(hpD a n f g tt (b+1)) ++ [Blk.dead]⟩):=by
 obtain ⟨l1,l2,l3,l4⟩:=E2 hb hst
 have hL:=AF Jp
 have h1:∃ F,Gu F ∧ (AA (JL (AP Jp)) (Kp a n (kkN n g) b (λi=>Bc n f i) g tt (λ_=>.nilS) (evF n g (dnF n g (Bv (mbF g) n) b 0)) (rfF n g (dnF n g (Bv (mbF g) n) b 0)) (lnP n g b 0) (coP n g b 0) ts) 17 (Uq a n (kkN n g) b (λi=>Bc n f i) g tt (λ_=>.nilS) (evF n g (dnF n g (Bv (mbF g) n) b 0)) (rfF n g (dnF n g (Bv (mbF g) n) b 0)) (lnP n g b 0) (coP n g b 0) ts 0 (loF n g b) (-1) 0 (evF n g (dnF n g (Bv (mbF g) n) b 0)) (rfF n g (dnF n g (Bv (mbF g) n) b 0)) (lnP n g b 0) (coP n g b 0) (Alo a n (kkN n g) b (λi=>Bc n f i) g tt (λ_=>.nilS) (evF n g (dnF n g (Bv (mbF g) n) b 0)) (rfF n g (dnF n g (Bv (mbF g) n) b 0)) (lnP n g b 0) (coP n g b 0) ts))).sem = _ :=
  AjQ (AP Jp) a n b (λi=>Bc n f i) g tt (λ_=>.nilS) (evF n g (dnF n g (Bv (mbF g) n) b 0)) (rfF n g (dnF n g (Bv (mbF g) n) b 0)) (lnP n g b 0) (coP n g b 0) ts hb hst (by omega) (Cj (mbF g) n b - 1) 0 ts _ 17 (by omega) (by omega)
 obtain ⟨F,hF,h1⟩:=h1
 refine ⟨F,hF,?_⟩
 have hin:Al (ile 0 (ofNat b)) (ilt (ofNat b) (ofNat n)) = true:=Ap hb
 have hlc:(evF n g (dnF n g (Bv (mbF g) n) b 0) b).loc = loF n g b:=by rw [CF hb]
 have hw:=AlH (AP Jp) (isP (AP Jp) 0 (Xk a n (kkN n g) b (λi=>Bc n f i) g tt (λ_=>.nilS) (evF n g (dnF n g (Bv (mbF g) n) b 0)) (rfF n g (dnF n g (Bv (mbF g) n) b 0)) (lnP n g b 0) (coP n g b 0) (ts.map F) 0 0 0 0 (evF n g (dnF n g (Bv (mbF g) n) (b+1) 0)) (rfF n g (dnF n g (Bv (mbF g) n) (b+1) 0)) (lnP n g (b+1) 0) (coP n g (b+1) 0))) a n (kkN n g) b (λi=>Bc n f i) g tt (λ_=>.nilS) (evF n g (dnF n g (Bv (mbF g) n) b 0)) (rfF n g (dnF n g (Bv (mbF g) n) b 0)) (lnP n g b 0) (coP n g b 0) ts (ts.map F) 0 0 0 0 (evF n g (dnF n g (Bv (mbF g) n) (b+1) 0)) (rfF n g (dnF n g (Bv (mbF g) n) (b+1) 0)) (lnP n g (b+1) 0) (coP n g (b+1) 0) hin (decide_eq_true hb)
 rw [hlc] at hw
 have hw:=hw (Ai h1)
 have e:=PU (τ:=tab) (G:=Gl) (fn:=Tryz.f16) (CLe.refl (Ak Uj)) (Ar (k:=0) hL hL) _ hw
 rw [Y9]
 exact Tc (st:=⟨ts,(hpD a n f g tt b)⟩) (Γ:=AN Gl Uj Jp) e rfl
theorem ZD (L:LT) (a:Int) (n:Nat) (f:Nat->E6) (hn:n <= 16) (g:Nat->E6) (tt:Int) (hk:∃ k,k < n ∧ mbF g k = true):∀ (e b:Nat) (j:Nat->V) (q:Nat),n = b+e->e < q ->
  (AA (Iq L) (J6 a n f) q (L0 a n f b (kkN n g) tt g (evF n g (dnF n g (Bv (mbF g) n) b 0)) (rfF n g (dnF n g (Bv (mbF g) n) b 0)) (lnP n g b 0) (coP n g b 0) j)).sem = some (IR a n f n (kkN n g) tt g (evF n g (dnF n g (Bv (mbF g) n) n 0)) (rfF n g (dnF n g (Bv (mbF g) n) n 0)) (lnP n g n 0) (coP n g n 0))
 | 0,b,j,q+1,h,_=>by
  have:n = b:=by omega
  subst this
  rw [show Iq L = AD tab ⟨CY,L,Gl⟩ (As Tryz.f4 6) 6 from rfl]
  exact Ab (Ake L a n f n _ _ g _ _ _ _ j (A9 (Nat.le_refl _)))
 | e+1,b,j,q+1,h,h2=>by
  have hl:b < n:=by omega
  have hx:=Ja (a:=b) (n:=n) (by omega) (by omega)
  have hlt:(b+(n - 1)) % n < n:=Nat.mod_lt _ (by omega)
  have hin:Al (ile 0 (Ae (wr .i64 (Az (wr .i64 (Af (ofNat b) (ofNat n))) 1)) (ofNat n))) (ilt (Ae (wr .i64 (Az (wr .i64 (Af (ofNat b) (ofNat n))) 1)) (ofNat n)) (ofNat n)) = true:=by rw [hx]; exact Ap hlt
  have hnl:nlt (toN (Ae (wr .i64 (Az (wr .i64 (Af (ofNat b) (ofNat n))) 1)) (ofNat n))) n = true:=by rw [hx]; exact decide_eq_true hlt
  have next:=λj=>ZD L a n f hn g tt hk e (b+1) j q (by omega) (by omega)
  cases hst:CB (mbF g) n b with
  | false =>
   have hm:Aw (g (toN (Ae (wr .i64 (Az (wr .i64 (Af (ofNat b) (ofNat n))) 1)) (ofNat n)))) = false:=by rw [hx]; exact hst
   rw [show Iq L = AD tab ⟨CY,L,Gl⟩ (As Tryz.f4 6) 6 from rfl,Ab (Akd L a n f b (kkN n g) tt g (evF n g (dnF n g (Bv (mbF g) n) b 0)) (rfF n g (dnF n g (Bv (mbF g) n) b 0)) (lnP n g b 0) (coP n g b 0) j (ofNat_lt hl) (F3 (by omega)) hin hnl hm),Aq,An hl (by omega)]
   have hd:dnF n g (Bv (mbF g) n) b 0 = dnF n g (Bv (mbF g) n) (b+1) 0:=by
    funext i
    unfold dnF
    by_cases hi:i < n
    ·rw [Yv hi hk hst]
    ·rw [decide_eq_false hi]; rfl
   rw [hd,SP hst,AbF (SP hst)]
   exact next (λ_=>.und)
  | true =>
   have hm:Aw (g (toN (Ae (wr .i64 (Az (wr .i64 (Af (ofNat b) (ofNat n))) 1)) (ofNat n)))) = true:=by rw [hx]; exact hst
   obtain ⟨F,hF,hc⟩:=AiC a n f hn b g tt (OS n b g j) hl hst
   have hts:(OS n b g j).map F = Ux n b (λi=>F (nth (OS n b g j) i)):=by
    have:(OS n b g j).map F = slW (F (.ptr 0 0)) (F (nV n)) (F (.ptr 2 0)) (F (nV n)) (F (nV b)) (λi=>F (nth (OS n b g j) i)):=YS n b g j F
    rw [this,hF.2 0 0 (by omega),hF.2 2 0 (by omega)]
    unfold nV iV
    rw [hF.1,hF.1]
    rfl
   rw [hts] at hc
   have hr:=λq55=>Akc Adf a n f b (kkN n g) tt g (evF n g (dnF n g (Bv (mbF g) n) b 0)) (rfF n g (dnF n g (Bv (mbF g) n) b 0)) (lnP n g b 0) (coP n g b 0) (λi=>F (nth (OS n b g j) i)) (evF n g (dnF n g (Bv (mbF g) n) (b+1) 0)) (rfF n g (dnF n g (Bv (mbF g) n) (b+1) 0)) (lnP n g (b+1) 0) (coP n g (b+1) 0) q55 j (ofNat_lt hl) (F3 (by omega)) hin hnl hm
   rw [Acd] at hr
   have hr:=hr (isC CY 16 (.tup [],.all ⟨Ux n b (λi=>F (nth (OS n b g j) i)),(hpD a n f g tt (b+1)) ++ [Blk.dead]⟩)) (Tb hc)
   have hr':=Db (f':=Iq L) (l:=J6 a n f) (LQ (τ:=tab) (G:=Gl) (Aag (CLe.refl CY)) (WB L) (As Tryz.f4 6) 6 (L0 a n f b (kkN n g) tt g (evF n g (dnF n g (Bv (mbF g) n) b 0)) (rfF n g (dnF n g (Bv (mbF g) n) b 0)) (lnP n g b 0) (coP n g b 0) j)) hr
   rw [Ab hr',Aq,An hl (by omega)]
   exact next (λ_=>.und)
def ttN (n:Nat) (g:Nat->E6):Nat:=Aj (obF g) n
def Nx (a:Int) (n:Nat) (g:Nat->E6):V:=.agg [iV a,.ref 0,.ref 1,iV (ofNat (ttN n g)),iV (ofNat (kkN n g)),.ref 2,.jref 3]
def Ny (n:Nat) (g:Nat->E6):List Blk:=[.row 57 6 n (λi=>eV (g i)),.row 61 5 n (λi=>evV (evF n g (λ_=>true) i)),.row 3 1 n (λi=>iV (rfF n g (λ_=>true) i)),
 .jag ⟨24,1,kkN n g,λ_=>.und,0,3,1,λ_=>true,lnN (mbF g) (wrF g) n,λk i=>iV (ofNat (coN (mbF g) (wrF g) n k i))⟩]
def noV:V:=.agg [iV 0,.ref 0,.ref 1,iV 0,iV 0,.ref 2,.jref 3]
def noH:List Blk:=[.row 57 6 0 (λ_=>.und),.row 61 5 0 (λ_=>.und),.row 3 1 0 (λ_=>.und),.jag ⟨24,1,0,λ_=>.und,0,3,1,λ_=>true,λ_=>0,λ_ _=>.und⟩]
def ofT:List V->T (V × List Blk)
 | [.val (.int .i64 a),v]=>apL v λn f=>.br (Be n) (.br (ieq (BN a n f) 0) (.leaf (.tup [Nx a n (shG n f),iV 0,iV 0],Ny n (shG n f))) (.leaf (.tup [noV,iV (BN a n f),iV (KT a n f)],noH))) .fail
 | _=>.fail
theorem Kd {n i:Nat} {f:Nat->E6} (h:i < n):shG n f i = Bc n f ((shQ n f+i) % n):=by
 unfold shG AdT
 rw [decide_eq_true h]
 rfl
theorem Jt {a:Int} {n:Nat} {f g:Nat->E6} (h:IsCycle a n f) (he:∀ i,i < n->g i = f i):IsCycle a n g:=by
 have c1:∀ (p:E6->Bool) k,k <= n->Aj (λi=>p (g i)) k = Aj (λi=>p (f i)) k:=λp k hk=>GI λi hi=>by rw [he i (by omega)]
 have c2:∀ (p:E6->Bool) i,i < n->Ay (λk=>p (g k)) n i = Ay (λk=>p (f k)) n i:=λp i hi=>by
  rw [FL hi,FL hi]
  unfold AU
  rw [c1 p i (by omega),c1 p n (Nat.le_refl _)]
 have hlo:=h.lo
 refine ⟨h.arch,h.lo,h.hi,λi hi=>?_,λi hi=>?_,?_,?_,λi hi=>?_,λi hi=>?_⟩
 ·have:=h.legal i hi
  unfold Ct at this ⊢
  rw [he i hi]
  exact this
 ·have:=h.meets i hi
  unfold ES at this ⊢
  rw [he i hi,he _ (Nat.mod_lt _ (by omega))]
  exact this
 ·rw [c1 Ax n (Nat.le_refl _)]; exact h.outer
 ·rw [c1 Aw n (Nat.le_refl _)]; exact h.moves
 ·have:=h.writes i hi
  unfold AH Gp at this ⊢
  have e:(λi=>isW (g i)) i = (λi=>isW (f i)) i:=by show isW (g i) = isW (f i); rw [he i hi]
  rw [e,c2 Aw i hi,GI (q:=Cq (Ay (λk=>Aw (f k)) n) (λi=>isW (f i)) (Ay (λk=>Aw (f k)) n i)) λk hk=>by
   unfold Cq
   rw [c2 Aw k hk]
   show Al _ (isW (g k)) = Al _ (isW (f k))
   rw [he k hk]]
  exact this
 ·have:=h.crowd i hi
  unfold AH Gp at this ⊢
  rw [c2 Ax i hi,GI (q:=Cq (Ay (λk=>Ax (f k)) n) (λ_=>true) (Ay (λk=>Ax (f k)) n i)) λk hk=>by
   unfold Cq
   rw [c2 Ax k hk]]
  exact this
theorem IU {p:Nat->Bool}:∀ {n:Nat},0 < Aj p n->∃ k,k < n ∧ p k = true
 | 0,h=>by simp [Aj] at h
 | n+1,h=>by
  cases hp:p n with
  | true=>exact ⟨n,Nat.lt_succ_self n,hp⟩
  | false =>
   rw [B5 hp] at h
   obtain ⟨k,h1,h2⟩:=IU h
   exact ⟨k,by omega,h2⟩
theorem Qa {a:Int} {n:Nat} {f:Nat->E6} (h:IsCycle a n f):IsCycle a n (λi=>Bc n f i):=by
 have h1:=PH n (λi=>B2 (f i))
 have h2:=h.lo
 exact h.turned (show Co n (λi=>B2 (f i)) < n by omega)
theorem Uy {a:Int} {n:Nat} {f:Nat->E6} (h:IsCycle a n f):Fb (λi=>Ax (Bc n f i)) n < n ∧ Ax (Bc n f (Fb (λi=>Ax (Bc n f i)) n)) = true ∧ (∀ i,i < Fb (λi=>Ax (Bc n f i)) n->Ax (Bc n f i) = false) ∧ shQ n f < n:=by
 have h2:=h.lo
 have h3:=(Qa h).outer
 obtain ⟨k,h4,h5⟩:=IU (p:=λi=>Ax (Bc n f i)) (n:=n) (by omega)
 obtain ⟨h6,h7,h8⟩:=Eb (p:=λi=>Ax (Bc n f i)) h4 h5
 exact ⟨by omega,h7,h8,Nat.mod_lt _ (by omega)⟩
theorem Fj {a:Int} {n:Nat} {f:Nat->E6} (h:IsCycle a n f):IsCycle a n (shG n f) :=
 Jt ((Qa h).turned (Uy h).2.2.2) λi hi=>Kd hi
theorem QP {p:Nat->Bool} {n:Nat} (h:2 <= Aj p n):rN p n n = Aj p n:=by
 have hn:0 < n:=by
  rcases Nat.eq_zero_or_pos n with h0 | h0
  ·subst h0; simp [Aj] at h
  ·exact h0
 have h1:=ZV p n (n - 1) (by omega)
 rw [show n - 1+1 = n by omega] at h1
 rw [h1]
 have h2:=LW p (n - 1)
 rw [show n - 1+1 = n by omega] at h2
 split <;> omega
theorem SN {Γ:Cx} {zs:List (Nat × List (Nat × V))} {loops:List (Nat × Lp)} (h:Γ.loop = BK zs loops):BF Γ:=λid f st r hr=>by
 rw [h] at hr
 have by':∀ st,(AP loops id f st).sem = some r->∃ l m,(AA f l m st).sem = some r:=λst hr=>by
  unfold AP at hr
  split at hr
  ·exact ⟨_,_,hr⟩
  ·cases hr
 unfold BK at hr
 split at hr
 ·obtain ⟨l,m,h1⟩:=by' _ hr
  exact .weak (RN _ _) (Fl h1)
 ·obtain ⟨l,m,h1⟩:=by' _ hr
  exact Fl h1
def AiJ:List (Nat × List (Nat × V)):=[(2,[(3,eV zE)]),(4,[(4,evV ⟨0,0,0,0,0⟩),(5,iV (-1))]),(6,[(7,iV 0)])]
def AeE (a:Int) (n:Nat) (f:Nat->E6):List (Nat × Lp):=[(0,Aau a n f),(2,NZ a n f),(4,NY a n f),(6,J6 a n f)]
noncomputable def Yz (a:Int) (n:Nat) (f:Nat->E6):Cx:=⟨CY,BK AiJ (AeE a n f),Gl⟩
theorem AaZ (a:Int) (n:Nat) (f:Nat->E6) (z:Nat) (j:Nat->V):Ck (L1 a n f z 0 (λ_=>.und) j) [(3,eV zE)] = L1 a n f z 0 (λ_=>eV zE) j:=by kernel_rfl
theorem AaY (a:Int) (n:Nat) (f:Nat->E6) (z:Nat) (g:Nat->E6):Ck (R7 a n f z g) [(4,evV ⟨0,0,0,0,0⟩),(5,iV (-1))] = Q7 a n f 0 0 0 0 g (thF n g) (loF n g) (λ_=>-1) (λ_=>evV ⟨0,0,0,0,0⟩) (λ_=>0) (λi=>nth (R7 a n f z g).t i):=by kernel_rfl
theorem AaX (a:Int) (n:Nat) (f:Nat->E6) (q m kk:Nat) (tt:Int) (g:Nat->E6) (th lo r:Nat->Int) (x:Nat->Ev5) (pl:Int->Int):Ck (R6 a n f q m kk tt g th lo r x pl) [(7,iV 0)] = L0 a n f 0 kk tt g x r (λ_=>0) (λ_ _=>0) (λi=>nth (R6 a n f q m kk tt g th lo r x pl).t i):=by kernel_rfl
theorem AjB (G:Nat->E6):upE 0 G = λ_=>zE:=by funext i; simp [upE]
theorem Aej (n:Nat) (g:Nat->E6):upX n g 0 = λ_=>⟨0,0,0,0,0⟩:=by funext i; simp [upX]
theorem AkZ (n:Nat) (g:Nat->E6):plM n g 0 = λ_=>0:=rfl
theorem Ab3 (n:Nat) (g:Nat->E6):dnF n g (Bv (mbF g) n) 0 0 = λ_=>false:=by
 funext j
 unfold dnF
 rw [Ab2]
 simp
theorem VY (n:Nat) (g:Nat->E6):upX n g n = evF n g (dnF n g (Bv (mbF g) n) 0 0):=by
 rw [Ab3]
 funext i
 unfold upX
 by_cases hi:i < n
 ·rw [decide_eq_true hi]; rfl
 ·rw [decide_eq_false hi]
  unfold evF
  rw [decide_eq_false hi]
  rfl
theorem Aks (n:Nat) (g:Nat->E6):rfF n g (dnF n g (Bv (mbF g) n) 0 0) = λ_=>-1:=by
 rw [Ab3]
 rfl
def AkM (n:Nat) (g:Nat->E6):List Blk:=[.row 57 6 n (λi=>eV (g i)),.row 61 5 n (λi=>evV (evF n g (dnF n g (Bv (mbF g) n) n 0) i)),.row 3 1 n (λi=>iV (rfF n g (dnF n g (Bv (mbF g) n) n 0) i)),
 .jag ⟨24,1,kkN n g,λ_=>.nilS,0,3,1,λ_=>true,lnP n g n 0,λk i=>iV (coP n g n 0 k i)⟩]
theorem AhN {n:Nat} {g:Nat->E6} (hk:0 < kkN n g):A0 (AkM n g) (Ny n g):=by
 have hn:0 < n:=by
  rcases Nat.eq_zero_or_pos n with h0 | h0
  ·subst h0; simp [kkN,Aj] at hk
  ·exact h0
 obtain ⟨k0,hk0,hm⟩:=IU hk
 have hd:∀ i,i < n->dnF n g (Bv (mbF g) n) n 0 i = true:=λi hi=>by
  unfold dnF
  rw [decide_eq_true hi,T6]
  ·rfl
  ·exact Gd hn
 refine .cons (λ_ _=>rfl) (.cons (λi hi=>?_) (.cons (λi hi=>?_) (.consB (.jag (λ_ _=>.inr rfl) (λ_ _=>rfl) (λk hk'=>?_) (λk hk' q hq=>?_)) (.refl []))))
 ·rw [CF hi,CF hi,hd i hi]
 ·unfold rfF
  rw [hd i hi]
 ·have hk':k < kkN n g:=hk'
  have:=(Gw hk').1
  show lnN _ _ n k = lnP n g n 0 k
  unfold lnP
  rw [if_pos hk',if_pos this]
 ·have hk':k < kkN n g:=hk'
  have hq:q < lnP n g n 0 k:=hq
  show iV _ = iV _
  unfold coP
  rw [if_pos hq]
theorem Agf {a:Int} {n:Nat} {f:Nat->E6} (h8:Be n = true) (hc:ieq (BN a n f) 0 = true) :
  (Au (Ah tab (Yz a n f) Tryz.f4 [iV a,A5 n f] [])).sem = some (.tup [Nx a n (shG n f),iV 0,iV 0],AkM n (shG n f)):=by
 have hy:=D2 hc
 have hlo:=hy.lo
 have hhi:=hy.hi
 have hL:=CK AiJ (AeE a n f)
 obtain ⟨z1,z2,z3,z4⟩:=Uy hy
 have hg:=Fj hy
 have hko:rN (obF (shG n f)) n n = ttN n (shG n f):=QP hg.outer
 have hkm:rN (mbF (shG n f)) n n = kkN n (shG n f):=QP hg.moves
 have hkl:kkN n (shG n f) <= n:=AV _ _
 have c1:Al (ilt 0 (ofNat n)) (Al (Dv n) (C5 8 (ofNat n) (ofNat n))) = true:=by
  unfold Al ilt Dv C5
  simp only [Int.ofNat_eq_natCast,Bool.and_eq_true,decide_eq_true_eq]
  omega
 have c2:C5 24 (ofNat (kkN n (shG n f))) (ofNat (kkN n (shG n f))) = true:=by
  unfold C5
  simp only [Int.ofNat_eq_natCast,Bool.and_eq_true,decide_eq_true_eq]
  omega
 have hm:∃ k,k < n ∧ mbF (shG n f) k = true:=IU (p:=mbF (shG n f)) (by have:=hg.moves; show 0 < Aj (λk=>Aw (shG n f k)) n; omega)
 unfold Yz
 refine A1 (Ar (Ar (Ar (Ar hL hL) hL) hL) hL) _ (Amv _ _ _ _ _ a n f (shQ n f) n (kkN n (shG n f)) (ofNat (ttN n (shG n f))) (shG n f) (thF n (shG n f)) (loF n (shG n f)) (λ_=>-1) (upX n (shG n f) n) (plM n (shG n f) n)
  (evF n (shG n f) (dnF n (shG n f) (Bv (mbF (shG n f)) n) n 0)) (rfF n (shG n f) (dnF n (shG n f) (Bv (mbF (shG n f)) n) n 0)) (lnP n (shG n f) n 0) (coP n (shG n f) n 0) h8 hc hy.may c1 E0 c2 (Ai ?_) (Ai ?_) (Ai ?_) (Ai ?_))
 ·show (AA _ (Aau a n f) (n+1) _).sem = _
  exact Ae1 _ a n f (by omega) _ z1 z2 z3 _ 0 _ (n+1) (Nat.zero_add _).symm (by omega)
 ·show (AA _ (NZ a n f) (n+1) (Ck _ [(3,eV zE)])).sem = _
  rw [AaZ]
  have h:=λL j=>ZF L a n f hhi (shQ n f) z4 n 0 j (n+1) (by omega) (by omega)
  rw [AjB] at h
  exact h _ _
 ·show (AA _ (NY a n f) (n+1) (Ck _ [(4,evV ⟨0,0,0,0,0⟩),(5,iV (-1))])).sem = _
  rw [AaY]
  have h:=λL j=>ZE L a n f hhi (shG n f) n 0 j (n+1) (by omega) (by omega)
  rw [Aej,AkZ,hko,hkm] at h
  exact h _ _
 ·show (AA _ (J6 a n f) (n+1) (Ck _ [(7,iV 0)])).sem = _
  rw [AaX]
  have h:=λL j=>ZD L a n f hhi (shG n f) (ofNat (ttN n (shG n f))) hm n 0 j (n+1) (by omega) (by omega)
  rw [<- VY,Aks,AeH,Al9] at h
  exact h _ _
theorem p14:A6 Tryz.prog Gl 4 ofT:=by
 refine Av AI mixed Tryz.func4 (by kernel_rfl) (by kernel_rfl) λvs v h' h=>?_
 unfold ofT at h
 split at h
 ·rename_i a u
  obtain ⟨n,f,ha,h1⟩:=Cc h
  obtain ⟨h8,hq⟩:=Ad h1
  have hA:Bm [iV a,u] [iV a,A5 n f]:=λS w cs hv=>by
   obtain ⟨c,l,rfl,q1,d,l',rfl,q2,q3⟩:=hv
   exact ⟨c,_,rfl,q1,d,l',rfl,ha S w d q2,q3⟩
  have hx:Bg Tryz.prog (Yz a n f).base ∧ BF (Yz a n f):=⟨Y8,SN rfl⟩
  cases hc:ieq (BN a n f) 0 with
  | true =>
   rw [hc] at hq
   have:=Ac hq
   simp only [Prod.mk.injEq] at this
   obtain ⟨rfl,rfl⟩:=this
   have hg:=Fj (D2 hc)
   have hm:=hg.moves
   exact ⟨_,Yz a n f,_,hA,rfl,hx.1,hx.2,Agf h8 hc,AhN (by show 0 < Aj (λk=>Aw (shG n f k)) n; omega)⟩
  | false =>
   rw [hc] at hq
   have:=Ac hq
   simp only [Prod.mk.injEq] at this
   obtain ⟨rfl,rfl⟩:=this
   exact ⟨_,Yz a n f,_,hA,rfl,hx.1,hx.2,Amw _ a n f h8 hc,A0.refl _⟩
 ·cases h
end Go.Proofs.YthlojajaenfidaaGreatDoor.Sh
