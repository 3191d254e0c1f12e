/-
  Layer 7: the program's shape of a cycle. No conditions.
-/
import Derived.Test.YtjhnfomefcngfaaCyT
import Derived.Test.YtjhnfomefcngfaaCyU
namespace Go.Proofs.Ytjhnfomefcngfaa.Sh
open Go.Sy Ed
open Int (ofNat)
set_option maxHeartbeats 1000000
set_option maxRecDepth 4000
noncomputable def Ahj:List (Nat × (List V->T (V × List Blk))):=[(50,WT),(51,Oj),(52,BK fun e=>bV (Az e)),(53,AfD),(54,BK fun e=>bV (Au e))]
theorem Aa4:AF Try.prog Gl Ahj:=.cons p48 <| .cons p65 <| .cons p52 <| .cons p53 <| .cons p54 .nil
def Jw:List (Nat × Lp):=[(0,⟨(bmK 84 0 [0,1,4,5,6,7,23,24]),9,bmK 84 0 [],9,17⟩)]
noncomputable def Dh:FuncId->List V->St->T (V × Res):=SQ [(55,OC tab (AR Gl Tn Jw) Try.f55)] (Ao Ahj)
theorem WW:Bm Try.prog ⟨Dh,Gl⟩:=SP AP (.cons rfl AO (AQ U7 Jw).1 (AQ U7 Jw).2 Try.func55 (by kernel_rfl) (by kernel_rfl) .nil) (It rfl Aa4)
theorem AjI (L:LT) (a:Int) (n:Nat) (f:Nat->E6) (h0:AL n = true) (h1:ieq (B6 a n f) 0 = false):(A1 (Al tab ⟨Dh,L,Gl⟩ Try.f14 [iV a,.sl 6 n fun i=>eV (f i)] [])).sem = some ((.tup [.agg [iV 0,.ref 0,.ref 1,iV 0,iV 0,.ref 2,.jref 3],iV (B6 a n f),iV (Gt a n f)]),[.row 44 6 0 (fun _=>.und),.row 40 5 0 (fun _=>.und),r3Z,jgZ]):=Aa [true,true,true] [An n (fun _=>true),AL n,Am (ieq (B6 a n f) 0)] (by kernel_rfl) (by simp only [h0,h1,Ar] <;> rfl)
def Y9 (a:Int) (n:Nat) (f:Nat->E6):Lp:=⟨(bmK 164 0 [0,4,5,6,9,11,12,39,40]),2,bmK 164 0 [0,4,5,6,9,11,12],2,n+1⟩
def XE (a:Int) (n:Nat) (f:Nat->E6) (b:Nat) (j:Nat->V):St:=⟨(jsV 164 0 j [(0,iV a),(4,.ptr 0 0),(5,iV 0),(6,iV 0),(9,.ref 1),(11,nV n),(12,iV 0),(39,nV n),(40,nV b)]),[c7Z,.row 44 6 n (fun i=>eV (Bk n f i))]⟩
def Zy (a:Int) (n:Nat) (f:Nat->E6) (b:Nat):Ex × St:=(.ex 0,⟨(jsV 164 0 (fun _=>.und) [(0,iV a),(4,.ptr 0 0),(5,iV 0),(6,iV 0),(9,.ref 1),(11,nV n),(12,nV b)]),[c7Z,.row 44 6 n (fun i=>eV (Bk n f i))]⟩)
noncomputable def Om (L:LT):St->T (Ex × St):=fun st=>A9 tab ⟨Dh,L,Gl⟩ (Av Try.f14 0) 0 st
section
variable (L:LT) (a:Int) (n:Nat) (f:Nat->E6) (b:Nat)  (j:Nat->V)
include L a n f b j
theorem AhI (h0:ilt (ofNat b) (ofNat n) = true) (h13:ile 0 (ofNat b) = true) (h1:nlt b n = true) (h2:Az (Bk n f b) = false):Ai (Om L) (Y9 a n f) (XE a n f b j) = some (.nm,⟨(jsV 164 0 (fun _=>.und) [(0,(iV a)),(4,(.ptr 0 0)),(5,(iV 0)),(6,(iV 0)),(9,(.ref 1)),(11,(nV n)),(12,(iV 0)),(39,(nV n)),(40,(iV (wr .i64 (Ae (ofNat b) 1))))]),[c7Z,.row 44 6 n (fun i=>eV (Bk n f i))]⟩):=Aa [true,true,true,false] [ilt (ofNat b) (ofNat n),Af (ile 0 (ofNat b)) (ilt (ofNat b) (ofNat n)),nlt b n,Az (Bk n f b)] (by kernel_rfl) (by simp only [*] <;> rfl)
theorem AhH (h0:ilt (ofNat b) (ofNat n) = true) (h14:ile 0 (ofNat b) = true) (h1:nlt b n = true) (h2:Az (Bk n f b) = true) (h3:ieq (ofNat n) 0 = false):Ai (Om L) (Y9 a n f) (XE a n f b j) = some ((.ex 0),⟨(jsV 164 0 (fun _=>.und) [(0,(iV a)),(4,(.ptr 0 0)),(5,(iV 0)),(6,(iV 0)),(9,(.ref 1)),(11,(nV n)),(12,(iV (Ad (wr .i64 (Ae (ofNat b) 1)) (ofNat n))))]),[c7Z,.row 44 6 n (fun i=>eV (Bk n f i))]⟩):=Aa [true,true,true,true,false] [ilt (ofNat b) (ofNat n),Af (ile 0 (ofNat b)) (ilt (ofNat b) (ofNat n)),nlt b n,Az (Bk n f b),ieq (ofNat n) 0] (by kernel_rfl) (by simp only [*] <;> rfl)
end
def AiG (a:Int) (n:Nat) (f:Nat->E6) :Nat->V:=lkV A7 [(1,(.sl 6 n (fun i=>eV (f i)))),(7,(iV (B6 a n f))),(8,(iV (Gt a n f))),(10,(iV 0)),(21,(.tup [iV (B6 a n f),iV (Gt a n f)])),(22,(iV a)),(23,(.sl 6 n (fun i=>eV (f i)))),(24,(.tup [iV (B6 a n f),iV (Gt a n f)])),(25,(iV (B6 a n f))),(26,(iV (Gt a n f))),(27,(iV (B6 a n f))),(28,(bV (Am (ieq (B6 a n f) 0)))),(32,(.tup [.ref 1,iV 0])),(33,(.sl 6 n (fun i=>eV (f i)))),(34,(.tup [.ref 1,iV 0])),(35,(.ref 1)),(36,(iV 0)),(37,(.ref 1)),(38,(nV n))]
def N6 (a:Int) (n:Nat) (f:Nat->E6):Lp:=⟨(bmK 164 0 [0,4,5,6,9,11,12,14,55,56]),7,bmK 164 0 [0,4,5,6,11,14],7,n+1⟩
def J2 (a:Int) (n:Nat) (f:Nat->E6) (q b:Nat) (y:Nat->V) (j:Nat->V):St:=⟨(jsV 164 0 j [(0,iV a),(4,.ptr 0 0),(5,iV 0),(6,iV 0),(9,.ref 1),(11,nV n),(12,nV q),(14,.ptr 2 0),(55,nV n),(56,nV b)]),[c7Z,.row 44 6 n (fun i=>eV (Bk n f i)),.cells [iV a,.ref 3,.ref 4,iV 0,iV 0,.ref 5,.jref 6],.row 44 6 b y,.row 40 5 0 (fun _=>.und),r3Z,jgZ]⟩
def QG (a:Int) (n:Nat) (f:Nat->E6) (q b:Nat) (y:Nat->V):Ex × St:=(.ex 2,⟨(jsV 164 0 (fun _=>.und) [(0,iV a),(4,.ptr 0 0),(5,iV 0),(6,iV 0),(11,nV n),(14,.ptr 2 0)]),[c7Z,.row 44 6 n (fun i=>eV (Bk n f i)),.cells [iV a,.ref 3,.ref 4,iV 0,iV 0,.ref 5,.jref 6],.row 44 6 b y,.row 40 5 0 (fun _=>.und),r3Z,jgZ]⟩)
noncomputable def Ix (L:LT):St->T (Ex × St):=fun st=>A9 tab ⟨Dh,L,Gl⟩ (Av Try.f14 2) 2 st
section
variable (L:LT) (a:Int) (n:Nat) (f:Nat->E6) (q b:Nat) (y:Nat->V)  (j:Nat->V)
include L a n f q b y j
theorem AhE (h0:ilt (ofNat b) (ofNat n) = false):Ai (Ix L) (N6 a n f) (J2 a n f q b y j) = some ((.ex 2),⟨(jsV 164 0 (fun _=>.und) [(0,(iV a)),(4,(.ptr 0 0)),(5,(iV 0)),(6,(iV 0)),(11,(nV n)),(14,(.ptr 2 0))]),[c7Z,.row 44 6 n (fun i=>eV (Bk n f i)),.cells [iV a,.ref 3,.ref 4,iV 0,iV 0,.ref 5,.jref 6],.row 44 6 b y,.row 40 5 0 (fun _=>.und),r3Z,jgZ]⟩):=Aa [false] [ilt (ofNat b) (ofNat n)] (by kernel_rfl) (by simp only [h0] <;> rfl)
theorem AhD (h0:ilt (ofNat b) (ofNat n) = true) (h1:ieq (ofNat n) 0 = false) (h13:Af (ile 0 (Ad (wr .i64 (Ae (ofNat q) (ofNat b))) (ofNat n))) (ilt (Ad (wr .i64 (Ae (ofNat q) (ofNat b))) (ofNat n)) (ofNat n)) = true) (h14:nlt (toN (Ad (wr .i64 (Ae (ofNat q) (ofNat b))) (ofNat n))) n = true) (h15:Bj b 1 40 = true):Ai (Ix L) (N6 a n f) (J2 a n f q b y j) = some (.nm,⟨(jsV 164 0 (fun _=>.und) [(0,(iV a)),(4,(.ptr 0 0)),(5,(iV 0)),(6,(iV 0)),(9,(.ref 1)),(11,(nV n)),(12,(nV q)),(14,(.ptr 2 0)),(55,(nV n)),(56,(iV (wr .i64 (Ae (ofNat b) 1))))]),[c7Z,.row 44 6 n (fun i=>eV (Bk n f i)),.cells [iV a,.ref 3,.ref 4,iV 0,iV 0,.ref 5,.jref 6],.row 44 6 (B4 b 1) (AK b y (eV (Bk n f (toN (Ad (wr .i64 (Ae (ofNat q) (ofNat b))) (ofNat n)))))),.row 40 5 0 (fun _=>.und),r3Z,jgZ]⟩):=Aa [true,false,true,true,true] [ilt (ofNat b) (ofNat n),ieq (ofNat n) 0,Af (ile 0 (Ad (wr .i64 (Ae (ofNat q) (ofNat b))) (ofNat n))) (ilt (Ad (wr .i64 (Ae (ofNat q) (ofNat b))) (ofNat n)) (ofNat n)),nlt (toN (Ad (wr .i64 (Ae (ofNat q) (ofNat b))) (ofNat n))) n,Bj b 1 40] (by kernel_rfl) (by simp only [h13] <;> simp only [*] <;> rfl)
end
def YR (a:Int) (n:Nat) (f:Nat->E6) (q:Nat):Nat->V:=lkV A7 [(1,.und),(2,.und),(3,.und),(7,.und),(8,.und),(10,.und),(13,.und),(15,.und),(16,.und),(17,.und),(18,.und),(19,.und),(20,.und),(21,.und),(22,.und),(23,.und),(24,.und),(25,.und),(26,.und),(27,.und),(28,.und),(29,.und),(30,.und),(31,.und),(32,.und),(33,.und),(34,.und),(35,.und),(36,.und),(37,.und),(38,.und),(39,.und),(40,.und),(41,.und),(42,.und),(43,.und),(44,.und),(45,.und),(46,.und),(47,.und),(48,.und),(49,.und),(50,.und),(51,.und),(52,.und),(53,(iV a)),(54,(.agg [iV a,.nilS,.nilS,iV 0,iV 0,.nilS,.nilS])),(57,.und),(58,.und),(59,.und),(60,.und),(61,.und),(62,.und),(63,.und),(64,.und),(65,.und),(66,.und),(67,.und),(68,.und),(69,.und),(70,.und),(71,.und),(72,.und),(73,.und),(74,.und),(75,.und),(76,.und),(77,.und),(78,.und),(79,.und),(80,.und),(81,.und),(82,.und),(83,.und),(84,.und),(85,.und),(86,.und),(87,.und),(88,.und),(89,.und),(90,.und),(91,.und),(92,.und),(93,.und),(94,.und),(95,.und),(96,.und),(97,.und),(98,.und),(99,.und),(100,.und),(101,.und),(102,.und),(103,.und),(104,.und),(105,.und),(106,.und),(107,.und),(108,.und),(109,.und),(110,.und),(111,.und),(112,.und),(113,.und),(114,.und),(115,.und),(116,.und),(117,.und),(118,.und),(119,.und),(120,.und),(121,.und),(122,.und),(123,.und),(124,.und),(125,.und),(126,.und),(127,.und),(128,.und),(129,.und),(130,.und),(131,.und),(132,.und),(133,.und),(134,.und),(135,.und),(136,.und),(137,.und),(138,.und),(139,.und),(140,.und),(141,.und),(142,.und),(143,.und),(144,.und),(145,.und),(146,.und),(147,.und),(148,.und),(149,.und),(150,.und),(151,.und),(152,.und),(153,.und),(154,.und),(155,.und),(156,.und),(157,.und),(158,.und),(159,.und),(160,.und),(161,.und),(162,.und),(163,.und)]
def N5 (a:Int) (n:Nat) (f:Nat->E6):Lp:=⟨(bmK 164 0 [0,4,5,6,11,14,16,17,18,80,81]),10,bmK 164 0 [4,5,6,11,14],7,n+1⟩
def PN (a:Int) (n:Nat) (f:Nat->E6) (b m:Nat) (tt kk:Int) (g:Nat->E6) (th lo r:Nat->Int) (x:Nat->V) (pl:Int->Int) (j:Nat->V):St:=⟨(jsV 164 0 j [(0,iV a),(4,.ptr 0 0),(5,iV 0),(6,iV 0),(11,nV n),(14,.ptr 2 0),(16,.ref 7),(17,.ref 8),(18,.ref 9),(80,nV n),(81,nV b)]),[c7Z,.row 44 6 n (fun i=>eV (Bk n f i)),.cells [iV a,.ref 3,.ref 4,iV tt,iV kk,.ref 5,.jref 6],.row 44 6 n (fun i=>eV (g i)),.row 40 5 b x,.row 3 1 b (fun i=>iV (r i)),jgZ,.row 3 1 n (fun k=>iV (th k)),.row 3 1 n (fun k=>iV (lo k)),.imap 76 m pl]⟩
def QF (a:Int) (n:Nat) (f:Nat->E6) (b m:Nat) (tt kk:Int) (g:Nat->E6) (th lo r:Nat->Int) (x:Nat->V) (pl:Int->Int):Ex × St:=(.ex 4,⟨(jsV 164 0 (fun _=>.und) [(4,.ptr 0 0),(5,iV 0),(6,iV 0),(11,nV n),(14,.ptr 2 0)]),[c7Z,.row 44 6 n (fun i=>eV (Bk n f i)),.cells [iV a,.ref 3,.ref 4,iV tt,iV kk,.ref 5,.jref 6],.row 44 6 n (fun i=>eV (g i)),.row 40 5 b x,.row 3 1 b (fun i=>iV (r i)),jgZ]⟩)
noncomputable def Iw (L:LT):St->T (Ex × St):=fun st=>A9 tab ⟨Dh,L,Gl⟩ (Av Try.f14 4) 4 st
section
variable (L:LT) (a:Int) (n:Nat) (f:Nat->E6) (b m:Nat) (tt kk:Int) (g:Nat->E6) (th lo r:Nat->Int) (x:Nat->V) (pl:Int->Int)  (j:Nat->V)
include L a n f b m tt kk g th lo r x pl j
theorem AhC (h0:ilt (ofNat b) (ofNat n) = false):Ai (Iw L) (N5 a n f) (PN a n f b m tt kk g th lo r x pl j) = some ((.ex 4),⟨(jsV 164 0 (fun _=>.und) [(4,(.ptr 0 0)),(5,(iV 0)),(6,(iV 0)),(11,(nV n)),(14,(.ptr 2 0))]),[c7Z,.row 44 6 n (fun i=>eV (Bk n f i)),.cells [iV a,.ref 3,.ref 4,iV tt,iV kk,.ref 5,.jref 6],.row 44 6 n (fun i=>eV (g i)),.row 40 5 b x,.row 3 1 b (fun i=>iV (r i)),jgZ]⟩):=Aa [false] [ilt (ofNat b) (ofNat n)] (by kernel_rfl) (by simp only [h0] <;> rfl)
theorem AhB (h0:ilt (ofNat b) (ofNat n) = true) (h13:ile 0 (ofNat b) = true) (h1:nlt b n = true) (h2:De (th b) = true) (h14:Bj b 1 40 = true) (h15:nlt m 4611686018427387904 = true) (h16:De (wr .i64 (Ae (pl (th b)) 1)) = true) (h17:Bj b 1 8 = true):Ai (Iw L) (N5 a n f) (PN a n f b m tt kk g th lo r x pl j) = some (.nm,⟨(jsV 164 0 (fun _=>.und) [(0,(iV a)),(4,(.ptr 0 0)),(5,(iV 0)),(6,(iV 0)),(11,(nV n)),(14,(.ptr 2 0)),(16,(.ref 7)),(17,(.ref 8)),(18,(.ref 9)),(80,(nV n)),(81,(iV (wr .i64 (Ae (ofNat b) 1))))]),[c7Z,.row 44 6 n (fun i=>eV (Bk n f i)),.cells [iV a,.ref 3,.ref 4,iV (sel (ilt tt (wr .i64 (Ae (th b) 1))) (wr .i64 (Ae (th b) 1)) tt),iV (sel (ilt kk (wr .i64 (Ae (lo b) 1))) (wr .i64 (Ae (lo b) 1)) kk),.ref 5,.jref 6],.row 44 6 n (fun i=>eV (g i)),.row 40 5 (B4 b 1) (AK b x (.agg [iV (th b),iV (pl (th b)),iV ((g b)).src,iV (lo b),iV 0])),.row 3 1 (B4 b 1) (AK b (fun i=>iV (r i)) (iV (-1))),jgZ,.row 3 1 n (fun k=>iV (th k)),.row 3 1 n (fun k=>iV (lo k)),.imap 76 (B4 m 1) (fun i=>sel (ieq i (th b)) (wr .i64 (Ae (pl (th b)) 1)) (pl i))]⟩):=Aa (bbK 22 4194303) ((fun c0 c1 c2=>[ilt (ofNat b) (ofNat n),c0,c1,c0,c1,c2,c0,c1,c0,c1,Bj b 1 40,c0,c1,c2,nlt m 4611686018427387904,c2,De (wr .i64 (Ae (pl (th b)) 1)),c0,c1,c0,c1,Bj b 1 8]) (Af (ile 0 (ofNat b)) (ilt (ofNat b) (ofNat n))) (nlt b n) (De (th b))) (by kernel_rfl) (by simp only [*] <;> rfl)
end
def JB (a:Int) (n:Nat) (f:Nat->E6):Lp:=⟨(bmK 164 0 [4,11,14,145,146]),8,bmK 164 0 [4,14],8,n+1⟩
def KM (a:Int) (n:Nat) (f:Nat->E6) (b kk:Nat) (tt:Int) (g:Nat->E6) (x:Nat->Ev5) (r:Nat->Int) (ln:Nat->Nat) (co:Nat->Nat->Int) (j:Nat->V):St:=⟨(jsV 164 0 j [(4,.ptr 0 0),(11,nV n),(14,.ptr 2 0),(145,nV n),(146,nV b)]),[c7Z,.row 44 6 n (fun i=>eV (Bk n f i)),.cells [iV a,.ref 3,.ref 4,iV tt,nV kk,.ref 5,.jref 7],.row 44 6 n (fun i=>eV (g i)),.row 40 5 n (fun i=>evV (x i)),.row 3 1 n (fun i=>iV (r i)),jgZ,.jag (Jag.mk 25 1 kk (fun _=>.nilS) 0 3 1 (fun _=>true) ln (fun i k=>iV (co i k)))]⟩
def QE (a:Int) (n:Nat) (f:Nat->E6) (b kk:Nat) (tt:Int) (g:Nat->E6) (x:Nat->Ev5) (r:Nat->Int) (ln:Nat->Nat) (co:Nat->Nat->Int):Ex × St:=(.ex 6,⟨(jsV 164 0 (fun _=>.und) [(4,.ptr 0 0),(14,.ptr 2 0)]),[c7Z,.row 44 6 n (fun i=>eV (Bk n f i)),.cells [iV a,.ref 3,.ref 4,iV tt,nV kk,.ref 5,.jref 7],.row 44 6 n (fun i=>eV (g i)),.row 40 5 n (fun i=>evV (x i)),.row 3 1 n (fun i=>iV (r i)),jgZ,.jag (Jag.mk 25 1 kk (fun _=>.nilS) 0 3 1 (fun _=>true) ln (fun i k=>iV (co i k)))]⟩)
def Tt (n b:Nat) (u:Nat->V):List V:=(jsV 164 0 u [(4,.ptr 0 0),(11,nV n),(14,.ptr 2 0),(145,nV n),(146,nV b)])
noncomputable def GR (L:LT):St->T (Ex × St):=fun st=>A9 tab ⟨Dh,L,Gl⟩ (Av Try.f14 6) 6 st
section
variable (L:LT) (a:Int) (n:Nat) (f:Nat->E6) (b kk:Nat) (tt:Int) (g:Nat->E6) (x:Nat->Ev5) (r:Nat->Int) (ln:Nat->Nat) (co:Nat->Nat->Int)  (j:Nat->V)
include L a n f b kk tt g x r ln co j
theorem Ah1 (h0:ilt (ofNat b) (ofNat n) = false):(((A9 tab ⟨Dh,L,Gl⟩ (Av Try.f14 6) 6 (KM a n f b kk tt g x r ln co j)).bind fun r=>T.leaf (QQ (JB a n f) r))).sem = some ((.ex 6),⟨(jsV 164 0 (fun _=>.und) [(4,(.ptr 0 0)),(14,(.ptr 2 0))]),[c7Z,.row 44 6 n (fun i=>eV (Bk n f i)),.cells [iV a,.ref 3,.ref 4,iV tt,nV kk,.ref 5,.jref 7],.row 44 6 n (fun i=>eV (g i)),.row 40 5 n (fun i=>evV (x i)),.row 3 1 n (fun i=>iV (r i)),jgZ,.jag (Jag.mk 25 1 kk (fun _=>.nilS) 0 3 1 (fun _=>true) ln (fun i k=>iV (co i k)))]⟩):=Aa [false] [ilt (ofNat b) (ofNat n)] (by kernel_rfl) (by simp only [h0] <;> rfl)
theorem Ah0 (h0:ilt (ofNat b) (ofNat n) = true) (h1:ieq (ofNat n) 0 = false) (h14:Af (ile 0 (Ad (wr .i64 (As (wr .i64 (Ae (ofNat b) (ofNat n))) 1)) (ofNat n))) (ilt (Ad (wr .i64 (As (wr .i64 (Ae (ofNat b) (ofNat n))) 1)) (ofNat n)) (ofNat n)) = true) (h15:nlt (toN (Ad (wr .i64 (As (wr .i64 (Ae (ofNat b) (ofNat n))) 1)) (ofNat n))) n = true) (h2:Au (g (toN (Ad (wr .i64 (As (wr .i64 (Ae (ofNat b) (ofNat n))) 1)) (ofNat n)))) = false):(((A9 tab ⟨Dh,L,Gl⟩ (Av Try.f14 6) 6 (KM a n f b kk tt g x r ln co j)).bind fun r=>T.leaf (QQ (JB a n f) r))).sem = some (.nm,⟨(jsV 164 0 (fun _=>.und) [(4,(.ptr 0 0)),(11,(nV n)),(14,(.ptr 2 0)),(145,(nV n)),(146,(iV (wr .i64 (Ae (ofNat b) 1))))]),[c7Z,.row 44 6 n (fun i=>eV (Bk n f i)),.cells [iV a,.ref 3,.ref 4,iV tt,nV kk,.ref 5,.jref 7],.row 44 6 n (fun i=>eV (g i)),.row 40 5 n (fun i=>evV (x i)),.row 3 1 n (fun i=>iV (r i)),jgZ,.jag (Jag.mk 25 1 kk (fun _=>.nilS) 0 3 1 (fun _=>true) ln (fun i k=>iV (co i k)))]⟩):=Aa [true,false,true,true,false] [ilt (ofNat b) (ofNat n),ieq (ofNat n) 0,Af (ile 0 (Ad (wr .i64 (As (wr .i64 (Ae (ofNat b) (ofNat n))) 1)) (ofNat n))) (ilt (Ad (wr .i64 (As (wr .i64 (Ae (ofNat b) (ofNat n))) 1)) (ofNat n)) (ofNat n)),nlt (toN (Ad (wr .i64 (As (wr .i64 (Ae (ofNat b) (ofNat n))) 1)) (ofNat n))) n,Au (g (toN (Ad (wr .i64 (As (wr .i64 (Ae (ofNat b) (ofNat n))) 1)) (ofNat n))))] (by kernel_rfl) (by simp only [h14] <;> simp only [*] <;> rfl)
end
theorem Ahz (L:LT) (a:Int) (n:Nat) (f:Nat->E6) (b kk:Nat) (tt:Int) (g:Nat->E6) (x:Nat->Ev5) (r:Nat->Int) (ln:Nat->Nat) (co:Nat->Nat->Int) (u:Nat->V) (x':Nat->Ev5) (r':Nat->Int) (ln':Nat->Nat) (co':Nat->Nat->Int) (q55:List V->St->Bool) (j:Nat->V) (h0:ilt (ofNat b) (ofNat n) = true) (h1:ieq (ofNat n) 0 = false) (h14:Af (ile 0 (Ad (wr .i64 (As (wr .i64 (Ae (ofNat b) (ofNat n))) 1)) (ofNat n))) (ilt (Ad (wr .i64 (As (wr .i64 (Ae (ofNat b) (ofNat n))) 1)) (ofNat n)) (ofNat n)) = true) (h15:nlt (toN (Ad (wr .i64 (As (wr .i64 (Ae (ofNat b) (ofNat n))) 1)) (ofNat n))) n = true) (h2:Au (g (toN (Ad (wr .i64 (As (wr .i64 (Ae (ofNat b) (ofNat n))) 1)) (ofNat n)))) = true) (hq55:(q55 [.ptr 2 0,nV b] ⟨(jsV 164 0 j [(4,(.ptr 0 0)),(11,(nV n)),(14,(.ptr 2 0)),(20,(nV b)),(145,(nV n)),(146,(nV b)),(147,(bV (ilt (ofNat b) (ofNat n)))),(148,(nV b)),(149,(.ptr 2 1)),(150,(.ref 3)),(151,(nV b)),(152,(nV n)),(153,(iV (wr .i64 (Ae (ofNat b) (ofNat n))))),(154,(iV (wr .i64 (As (wr .i64 (Ae (ofNat b) (ofNat n))) 1)))),(155,(nV n)),(156,(iV (Ad (wr .i64 (As (wr .i64 (Ae (ofNat b) (ofNat n))) 1)) (ofNat n)))),(157,(.ept 3 6 (toN (Ad (wr .i64 (As (wr .i64 (Ae (ofNat b) (ofNat n))) 1)) (ofNat n))) 0)),(158,(eV (g (toN (Ad (wr .i64 (As (wr .i64 (Ae (ofNat b) (ofNat n))) 1)) (ofNat n)))))),(159,(bV (Au (g (toN (Ad (wr .i64 (As (wr .i64 (Ae (ofNat b) (ofNat n))) 1)) (ofNat n))))))),(160,(nV b))]),[c7Z,.row 44 6 n (fun i=>eV (Bk n f i)),.cells [iV a,.ref 3,.ref 4,iV tt,nV kk,.ref 5,.jref 7],.row 44 6 n (fun i=>eV (g i)),.row 40 5 n (fun i=>evV (x i)),.row 3 1 n (fun i=>iV (r i)),jgZ,.jag (Jag.mk 25 1 kk (fun _=>.nilS) 0 3 1 (fun _=>true) ln (fun i k=>iV (co i k)))]⟩) = true):(((A9 tab ⟨(onC 55 q55 (.tup [],.all ⟨Tt n b u,[c7Z,.row 44 6 n (fun i=>eV (Bk n f i)),.cells [iV a,.ref 3,.ref 4,iV tt,nV kk,.ref 5,.jref 7],.row 44 6 n (fun i=>eV (g i)),.row 40 5 n (fun i=>evV (x' i)),.row 3 1 n (fun i=>iV (r' i)),jgZ,.jag (Jag.mk 25 1 kk (fun _=>.nilS) 0 3 1 (fun _=>true) ln' (fun i k=>iV (co' i k)))] ++ [.dead]⟩) (Dh)),L,Gl⟩ (Av Try.f14 6) 6 (KM a n f b kk tt g x r ln co j)).bind fun r=>T.leaf (QQ (JB a n f) r))).sem = some (.nm,⟨(jsV 164 0 (fun _=>.und) [(4,(.ptr 0 0)),(11,(nV n)),(14,(.ptr 2 0)),(145,(nV n)),(146,(iV (wr .i64 (Ae (ofNat b) 1))))]),[c7Z,.row 44 6 n (fun i=>eV (Bk n f i)),.cells [iV a,.ref 3,.ref 4,iV tt,nV kk,.ref 5,.jref 7],.row 44 6 n (fun i=>eV (g i)),.row 40 5 n (fun i=>evV (x' i)),.row 3 1 n (fun i=>iV (r' i)),jgZ,.jag (Jag.mk 25 1 kk (fun _=>.nilS) 0 3 1 (fun _=>true) ln' (fun i k=>iV (co' i k)))]⟩):=Aa (bbK 6 61) [ilt (ofNat b) (ofNat n),ieq (ofNat n) 0,Af (ile 0 (Ad (wr .i64 (As (wr .i64 (Ae (ofNat b) (ofNat n))) 1)) (ofNat n))) (ilt (Ad (wr .i64 (As (wr .i64 (Ae (ofNat b) (ofNat n))) 1)) (ofNat n)) (ofNat n)),nlt (toN (Ad (wr .i64 (As (wr .i64 (Ae (ofNat b) (ofNat n))) 1)) (ofNat n))) n,Au (g (toN (Ad (wr .i64 (As (wr .i64 (Ae (ofNat b) (ofNat n))) 1)) (ofNat n)))),q55 [.ptr 2 0,nV b] ⟨(jsV 164 0 j [(4,(.ptr 0 0)),(11,(nV n)),(14,(.ptr 2 0)),(20,(nV b)),(145,(nV n)),(146,(nV b)),(147,(bV (ilt (ofNat b) (ofNat n)))),(148,(nV b)),(149,(.ptr 2 1)),(150,(.ref 3)),(151,(nV b)),(152,(nV n)),(153,(iV (wr .i64 (Ae (ofNat b) (ofNat n))))),(154,(iV (wr .i64 (As (wr .i64 (Ae (ofNat b) (ofNat n))) 1)))),(155,(nV n)),(156,(iV (Ad (wr .i64 (As (wr .i64 (Ae (ofNat b) (ofNat n))) 1)) (ofNat n)))),(157,(.ept 3 6 (toN (Ad (wr .i64 (As (wr .i64 (Ae (ofNat b) (ofNat n))) 1)) (ofNat n))) 0)),(158,(eV (g (toN (Ad (wr .i64 (As (wr .i64 (Ae (ofNat b) (ofNat n))) 1)) (ofNat n)))))),(159,(bV (Au (g (toN (Ad (wr .i64 (As (wr .i64 (Ae (ofNat b) (ofNat n))) 1)) (ofNat n))))))),(160,(nV b))]),[c7Z,.row 44 6 n (fun i=>eV (Bk n f i)),.cells [iV a,.ref 3,.ref 4,iV tt,nV kk,.ref 5,.jref 7],.row 44 6 n (fun i=>eV (g i)),.row 40 5 n (fun i=>evV (x i)),.row 3 1 n (fun i=>iV (r i)),jgZ,.jag (Jag.mk 25 1 kk (fun _=>.nilS) 0 3 1 (fun _=>true) ln (fun i k=>iV (co i k)))]⟩] (by kernel_rfl) (by simp only [hq55] <;> simp only [h14] <;> simp only [*] <;> rfl)
def M0 (a:Int) (n:Nat) (f:Nat->E6) (q:Nat) (g:Nat->E6):St:=⟨(jsV 164 0 (fun _=>.und) [(0,(iV a)),(4,(.ptr 0 0)),(5,(iV 0)),(6,(iV 0)),(11,(nV n)),(14,(.ptr 2 0)),(16,(.ref 7)),(17,(.ref 8)),(18,(.ref 9)),(73,(.ptr 2 1)),(74,(.ref 3)),(75,(.ref 7)),(76,(.ptr 2 1)),(77,(.ref 3)),(78,(.ref 8)),(79,(.ref 9)),(80,(nV n)),(81,(iV 0))]),[c7Z,.row 44 6 n (fun i=>eV (Bk n f i)),.cells [iV a,.ref 3,.ref 4,iV 0,iV 0,.ref 5,.jref 6],.row 44 6 n (fun i=>eV (g i)),.row 40 5 0 (fun _=>.und),r3Z,jgZ,.row 3 1 n (fun k=>iV (A0 (fun k=>Az (g k)) n k)),.row 3 1 n (fun k=>iV (A0 (fun k=>Au (g k)) n k)),.imap 76 0 (fun _=>0)]⟩
def Mz (a:Int) (n:Nat) (f:Nat->E6) (q m kk:Nat) (tt:Int) (g:Nat->E6) (th lo r:Nat->Int) (x:Nat->Ev5) (pl:Int->Int):St:=⟨(jsV 164 0 (fun _=>.und) [(4,(.ptr 0 0)),(5,(iV 0)),(6,(iV 0)),(11,(nV n)),(14,(.ptr 2 0)),(141,(.ptr 2 4)),(142,(nV kk)),(143,(.jref 7)),(144,(.ptr 2 6)),(145,(nV n)),(146,(iV 0))]),[c7Z,.row 44 6 n (fun i=>eV (Bk n f i)),.cells [iV a,.ref 3,.ref 4,iV tt,nV kk,.ref 5,.jref 7],.row 44 6 n (fun i=>eV (g i)),.row 40 5 n (fun i=>evV (x i)),.row 3 1 n (fun i=>iV (r i)),jgZ,.jag (Jag.mk 25 1 kk (fun _=>.nilS) 0 3 1 (fun _=>true) (fun _=>0) (fun _ _=>.und))]⟩
noncomputable abbrev HW (L:LT) (p0:PT) (p2:PT) (p4:PT) (p6:PT) (a:Int) (n:Nat) (f:Nat->E6) (q:Nat) (m:Nat) (kk:Nat) (tt:Int) (g:Nat->E6) (th:Nat->Int) (lo:Nat->Int) (r:Nat->Int) (x:Nat->Ev5) (pl:Int->Int) (x':Nat->Ev5) (r':Nat->Int) (ln':Nat->Nat) (co':Nat->Nat->Int):LT:=onP 0 p0 (Zy a n f q) (onP 2 p2 (QG a n f q n (fun i=>eV (g i))) (onP 4 p4 (QF a n f n m tt (ofNat kk) g th lo r (fun i=>evV (x i)) pl) (onP 6 p6 (QE a n f n kk tt g x' r' ln' co') L)))
theorem AjH (L:LT) (p0:PT) (p2:PT) (p4:PT) (p6:PT) (a:Int) (n:Nat) (f:Nat->E6) (q m kk:Nat) (tt:Int) (g:Nat->E6) (th lo r:Nat->Int) (x:Nat->Ev5) (pl:Int->Int) (x':Nat->Ev5) (r':Nat->Int) (ln':Nat->Nat) (co':Nat->Nat->Int) (h0:AL n = true) (h1:ieq (B6 a n f) 0 = true) (h2:BI n f = true) (h3:Af (ilt 0 (ofNat n)) (Af (Ca n) (BL 8 (ofNat n) (ofNat n))) = true) (h15:Bg [.row 3 1 n (fun _=>iV 0)] = true) (h4:BL 24 (ofNat kk) (ofNat kk) = true) (hp0:p0 (Om (HW L p0 p2 p4 p6 a n f q m kk tt g th lo r x pl x' r' ln' co')) (XE a n f 0 (AiG a n f )) = true) (hp2:p2 (Ix (HW L p0 p2 p4 p6 a n f q m kk tt g th lo r x pl x' r' ln' co')) (J2 a n f q 0 (fun _=>.und) (YR a n f q)) = true) (hp4:p4 (Iw (HW L p0 p2 p4 p6 a n f q m kk tt g th lo r x pl x' r' ln' co')) (M0 a n f q g) = true) (hp6:p6 (GR (HW L p0 p2 p4 p6 a n f q m kk tt g th lo r x pl x' r' ln' co')) (Mz a n f q m kk tt g th lo r x pl) = true):(A1 (Al tab ⟨Dh,onP 0 p0 (Zy a n f q) (onP 2 p2 (QG a n f q n (fun i=>eV (g i))) (onP 4 p4 (QF a n f n m tt (ofNat kk) g th lo r (fun i=>evV (x i)) pl) (onP 6 p6 (QE a n f n kk tt g x' r' ln' co') L))),Gl⟩ Try.f14 [iV a,.sl 6 n fun i=>eV (f i)] [])).sem = some ((.tup [.agg [iV a,.ref 0,.ref 1,iV tt,nV kk,.ref 2,.jref 3],iV 0,iV 0]),[.row 44 6 n (fun i=>eV (g i)),.row 40 5 n (fun i=>evV (x' i)),.row 3 1 n (fun i=>iV (r' i)),.jag (Jag.mk 25 1 kk (fun _=>.nilS) 0 3 1 (fun _=>true) ln' (fun i k=>iV (co' i k)))]):=Aa (bbK 19 524283) ((fun c0 c1 c2 c3 c4=>[c0,c1,Am (ieq (B6 a n f) 0),c0,c1,BI n f,p0 (Om (HW L p0 p2 p4 p6 a n f q m kk tt g th lo r x pl x' r' ln' co')) (XE a n f 0 (AiG a n f )),p2 (Ix (HW L p0 p2 p4 p6 a n f q m kk tt g th lo r x pl x' r' ln' co')) (J2 a n f q 0 (fun _=>.und) (YR a n f q)),c2,c0,c3,c4,c2,c0,c3,c4,p4 (Iw (HW L p0 p2 p4 p6 a n f q m kk tt g th lo r x pl x' r' ln' co')) (M0 a n f q g),BL 24 (ofNat kk) (ofNat kk),p6 (GR (HW L p0 p2 p4 p6 a n f q m kk tt g th lo r x pl x' r' ln' co')) (Mz a n f q m kk tt g th lo r x pl)]) (An n (fun _=>true)) (AL n) (true) (Af (ilt 0 (ofNat n)) (Af (Ca n) (BL 8 (ofNat n) (ofNat n)))) (Bg [.row 3 1 n (fun _=>iV 0)])) (by kernel_rfl) (by simp only [hp0,hp2,hp4,hp6] <;> simp only [h3] <;> simp only [*,Ar,BY] <;> rfl)
def Abf:LT:=fun _ _ _=>.fail
theorem Vc (L:LT):LLe Abf L:=fun _ _ _ _ _ _ h=>by cases h
def zE:E6:=⟨0,false,false,0,0,0⟩
def AfW (n:Nat) (G:Nat->E6) (i:Nat):E6:=bif decide (i < n) then G i else zE
def shQ (n:Nat) (f:Nat->E6):Nat:=(Fe (fun i=>Az (Bk n f i)) n+1) % n
def shG (n:Nat) (f:Nat->E6):Nat->E6:=AfW n fun i=>Bk n f ((shQ n f+i) % n)
theorem Acm (L:LT) (a:Int) (n:Nat) (f:Nat->E6) (hn:n <= 4611686018427387903) (k:Nat) (hk:k < n) (ht:Az (Bk n f k) = true) (hb:∀ i,i < k->Az (Bk n f i) = false):∀ (e b:Nat) (j:Nat->V) (q:Nat),k = b+e->e < q ->
    (A3 (Om L) (Y9 a n f) q (XE a n f b j)).sem = some (Zy a n f ((k+1) % n))
  | 0,b,j,q+1,h,_=>by
    have:k = b:=by omega
    subst this
    rw [Ab (AhH L a n f k j (ofNat_lt hk) (AJ k) (decide_eq_true hk) ht (F2 (by omega))),Qx,Aq hk (by omega),Cy]
    rfl
  | e+1,b,j,q+1,h,h2=>by
    have hl:b < n:=by omega
    rw [Ab (AhI L a n f b j (ofNat_lt hl) (AJ b) (decide_eq_true hl) (hb b (by omega))),Aw,Aq hl (by omega)]
    exact Acm L a n f hn k hk ht hb e (b+1) (fun _=>.und) q (by omega) (by omega)
def upE (b:Nat) (G:Nat->E6) (i:Nat):E6:=bif decide (i < b) then G i else zE
theorem Xl (b:Nat) (G:Nat->E6):AK b (fun i=>eV (upE b G i)) (eV (G b)) = fun i=>eV (upE (b+1) G i):=by
  funext k
  rw [BH,show Nat.beq k b = decide (k = b) by rw [Bool.eq_iff_iff]; simp]
  unfold upE
  by_cases h:k = b
  · subst h; simp
  · by_cases h2:k < b
    · have:k < b+1:=by omega
      simp [h,h2,this]
    · have:¬ k < b+1:=by omega
      simp [h,h2,this]
theorem Ye (L:LT) (a:Int) (n:Nat) (f:Nat->E6) (hn:n <= 16) (z:Nat) (hz:z < n):∀ (e b:Nat) (j:Nat->V) (q:Nat),n = b+e->e < q ->
    (A3 (Ix L) (N6 a n f) q (J2 a n f z b (fun i=>eV (upE b (fun i=>Bk n f ((z+i) % n)) i)) j)).sem = some (QG a n f z n (fun i=>eV (upE n (fun i=>Bk n f ((z+i) % n)) i)))
  | 0,b,j,q+1,h,_=>by
    have:n = b:=by omega
    subst this
    exact Ab (AhE L a n f z n _ j (A8 (Nat.le_refl _)))
  | e+1,b,j,q+1,h,h2=>by
    have hl:b < n:=by omega
    have hI:Ad (wr .i64 (Ae (ofNat z) (ofNat b))) (ofNat n) = ofNat ((z+b) % n):=by rw [D3 (by omega),Cy]
    have hlt:(z+b) % n < n:=Nat.mod_lt _ (by omega)
    rw [Ab (AhD L a n f z b _ j (ofNat_lt hl) (F2 (by omega)) (by rw [hI]; exact Ay hlt) (by rw [hI]; exact decide_eq_true hlt) (CS (by omega))),Aw,hI,Aq hl (by omega),show toN (ofNat ((z+b) % n)) = (z+b) % n from rfl,
      show Bk n f ((z+b) % n) = (fun i=>Bk n f ((z+i) % n)) b from rfl,Xl]
    exact Ye L a n f hn z hz e (b+1) (fun _=>.und) q (by omega) (by omega)
def upX (n:Nat) (g:Nat->E6) (b i:Nat):Ev5:=bif decide (i < b) then evF n g (fun _=>false) i else ⟨0,0,0,0,0⟩
theorem Rh (n:Nat) (g:Nat->E6) (b:Nat):AK b (fun i=>evV (upX n g b i)) (evV (evF n g (fun _=>false) b)) = fun i=>evV (upX n g (b+1) i):=by
  funext k
  rw [BH,show Nat.beq k b = decide (k = b) by rw [Bool.eq_iff_iff]; simp]
  unfold upX
  by_cases h:k = b
  · subst h; simp
  · by_cases h2:k < b
    · have:k < b+1:=by omega
      simp [h,h2,this]
    · have:¬ k < b+1:=by omega
      simp [h,h2,this]
theorem El (b:Nat) (v:V):AK b (fun _=>v) v = fun _=>v:=by
  funext k
  rw [BH]
  cases Nat.beq k b <;> rfl
def plM (n:Nat) (g:Nat->E6) (b:Nat) (x:Int):Int:=ofNat (Aj (fun k=>ieq x (thF n g k)) b)
theorem Af9 (n:Nat) (g:Nat->E6) {b:Nat} (hb:b < n) (hn:n <= 16):(fun i=>sel (ieq i (thF n g b)) (wr .i64 (Ae (plM n g b (thF n g b)) 1)) (plM n g b i)) = plM n g (b+1):=by
  funext i
  have hc:=Bd (fun k=>ieq (thF n g b) (thF n g k)) b
  unfold plM
  rw [Aq (n:=n) (by omega) (by omega)]
  cases h:ieq i (thF n g b) with
  | true =>
    have:=Gr h
    subst this
    rw [Bi h]
    rfl
  | false =>
    rw [B2 h]
    rfl
theorem Acu {p:Nat->Bool} {n b:Nat} (hb:b < n) (hn:n <= 16):sel (ilt (ofNat (rN p n b)) (wr .i64 (Ae (A0 p n b) 1))) (wr .i64 (Ae (A0 p n b) 1)) (ofNat (rN p n b)) = ofNat (rN p n (b+1)):=by
  have h1:=Ka p n b hb
  have h2:=R0 p n b
  rw [Hf hb,Aq (n:=n) (by omega) (by omega),Cz,rN]
  by_cases h:Ba p n b < rN p n b
  · rw [if_pos h,decide_eq_false (by omega)]; rfl
  · rw [if_neg h,decide_eq_true (by omega)]
    show ofNat (Ba p n b+1) = _
    rw [show Ba p n b = rN p n b by omega]
theorem Yd (L:LT) (a:Int) (n:Nat) (f:Nat->E6) (hn:n <= 16) (g:Nat->E6):∀ (e b:Nat) (j:Nat->V) (q:Nat),n = b+e->e < q ->
    (A3 (Iw L) (N5 a n f) q (PN a n f b b (ofNat (rN (obF g) n b)) (ofNat (rN (mbF g) n b)) g (thF n g) (loF n g) (fun _=>-1) (fun i=>evV (upX n g b i)) (plM n g b) j)).sem = some (QF a n f n n (ofNat (rN (obF g) n n)) (ofNat (rN (mbF g) n n)) g (thF n g) (loF n g) (fun _=>-1) (fun i=>evV (upX n g n i)) (plM n g n))
  | 0,b,j,q+1,h,_=>by
    have:n = b:=by omega
    subst this
    exact Ab (AhC L a n f n n _ _ g _ _ _ _ _ j (A8 (Nat.le_refl _)))
  | e+1,b,j,q+1,h,h2=>by
    have hl:b < n:=by omega
    have hth:thF n g b = ofNat (Ba (obF g) n b):=Hf hl
    have hpn:=Nd (p:=obF g) (n:=n) (k:=b) (by omega)
    have hcn:=Bd (obF g) n
    have hc:=Bd (fun k=>ieq (thF n g b) (thF n g k)) b
    have fit:∀ k:Nat,k <= 100->De (ofNat k) = true:=fun k hk=>by
      unfold De
      rw [decide_eq_true (by simp only [Int.ofNat_eq_natCast]; omega),decide_eq_true (by simp only [Int.ofNat_eq_natCast]; omega)]
      rfl
    rw [Ab (AhB L a n f b b _ _ g _ _ _ _ _ j (ofNat_lt hl) (AJ b) (decide_eq_true hl) (by rw [hth]; exact fit _ (by omega)) (CS (by omega)) (decide_eq_true (by omega)) (by unfold plM; rw [Aq (n:=n) (by omega) (by omega)]; exact fit _ (by omega)) (CS (by omega))),Aw,Aq hl (by omega)]
    have hx:=Rh n g b
    rw [show evV (evF n g (fun _=>false) b) = .agg [iV (thF n g b),iV (plM n g b (thF n g b)),iV (g b).src,iV (loF n g b),iV 0] by rw [CL hl]; rfl] at hx
    rw [hx,El,Af9 n g hl hn]
    have m1:=Acu (p:=obF g) hl hn
    have m2:=Acu (p:=mbF g) hl hn
    have m1:sel (ilt (ofNat (rN (obF g) n b)) (wr .i64 (Ae (thF n g b) 1))) (wr .i64 (Ae (thF n g b) 1)) (ofNat (rN (obF g) n b)) = ofNat (rN (obF g) n (b+1)):=m1
    have m2:sel (ilt (ofNat (rN (mbF g) n b)) (wr .i64 (Ae (loF n g b) 1))) (wr .i64 (Ae (loF n g b) 1)) (ofNat (rN (mbF g) n b)) = ofNat (rN (mbF g) n (b+1)):=m2
    rw [m1,m2]
    exact Yd L a n f hn g e (b+1) (fun _=>.und) q (by omega) (by omega)
def slW (w4 w11 w14 w145 w146:V) (u:Nat->V):List V:=(jsV 164 0 u [(4,w4),(11,w11),(14,w14),(145,w145),(146,w146)])
def O2 (n b:Nat) (g:Nat->E6) (j:Nat->V):List V:=(jsV 164 0 j [(4,(.ptr 0 0)),(11,(nV n)),(14,(.ptr 2 0)),(20,(nV b)),(145,(nV n)),(146,(nV b)),(147,(bV (ilt (ofNat b) (ofNat n)))),(148,(nV b)),(149,(.ptr 2 1)),(150,(.ref 3)),(151,(nV b)),(152,(nV n)),(153,(iV (wr .i64 (Ae (ofNat b) (ofNat n))))),(154,(iV (wr .i64 (As (wr .i64 (Ae (ofNat b) (ofNat n))) 1)))),(155,(nV n)),(156,(iV (Ad (wr .i64 (As (wr .i64 (Ae (ofNat b) (ofNat n))) 1)) (ofNat n)))),(157,(.ept 3 6 (toN (Ad (wr .i64 (As (wr .i64 (Ae (ofNat b) (ofNat n))) 1)) (ofNat n))) 0)),(158,(eV (g (toN (Ad (wr .i64 (As (wr .i64 (Ae (ofNat b) (ofNat n))) 1)) (ofNat n)))))),(159,(bV (Au (g (toN (Ad (wr .i64 (As (wr .i64 (Ae (ofNat b) (ofNat n))) 1)) (ofNat n))))))),(160,(nV b))])
theorem Aab (n b:Nat) (g:Nat->E6) (j:Nat->V):(jsV 164 0 j [(4,(.ptr 0 0)),(11,(nV n)),(14,(.ptr 2 0)),(20,(nV b)),(145,(nV n)),(146,(nV b)),(147,(bV (ilt (ofNat b) (ofNat n)))),(148,(nV b)),(149,(.ptr 2 1)),(150,(.ref 3)),(151,(nV b)),(152,(nV n)),(153,(iV (wr .i64 (Ae (ofNat b) (ofNat n))))),(154,(iV (wr .i64 (As (wr .i64 (Ae (ofNat b) (ofNat n))) 1)))),(155,(nV n)),(156,(iV (Ad (wr .i64 (As (wr .i64 (Ae (ofNat b) (ofNat n))) 1)) (ofNat n)))),(157,(.ept 3 6 (toN (Ad (wr .i64 (As (wr .i64 (Ae (ofNat b) (ofNat n))) 1)) (ofNat n))) 0)),(158,(eV (g (toN (Ad (wr .i64 (As (wr .i64 (Ae (ofNat b) (ofNat n))) 1)) (ofNat n)))))),(159,(bV (Au (g (toN (Ad (wr .i64 (As (wr .i64 (Ae (ofNat b) (ofNat n))) 1)) (ofNat n))))))),(160,(nV b))]) = O2 n b g j:=rfl
theorem Xp (n b:Nat) (g:Nat->E6) (j:Nat->V) (F:V->V):(O2 n b g j).map F = slW (F (.ptr 0 0)) (F (nV n)) (F (.ptr 2 0)) (F (nV n)) (F (nV b)) (fun i=>F (nth (O2 n b g j) i)):=by kernel_rfl
def hpD (a:Int) (n:Nat) (f:Nat->E6) (g:Nat->E6) (tt:Int) (b:Nat):List Blk:=[c7Z,.row 44 6 n (fun i=>eV (Bk n f i)),.cells [iV a,.ref 3,.ref 4,iV tt,iV (ofNat (kkN n g)),.ref 5,.jref 7],.row 44 6 n (fun i=>eV (g i)),.row 40 5 n (fun i=>evV (evF n g (dnF n g (Bw (mbF g) n) b 0) i)),.row 3 1 n (fun i=>iV (rfF n g (dnF n g (Bw (mbF g) n) b 0) i)),jgZ,.jag (Jag.mk 25 1 (kkN n g) (fun _=>.nilS) 0 3 1 (fun _=>true) (lnP n g b 0) (fun i k=>iV (coP n g b 0 i k)))]
theorem WX (vs:List V) (st:St):Dh 55 vs st = OC tab (AR Gl Tn Jw) Try.f55 vs st:=by kernel_rfl
theorem Se {τ:List Ty} {Γ:Cx} {fn:Func} {vs:List V} {st:St} {p:V × List Blk} {t:List V} (h:(Al τ Γ fn vs (st.h ++ [.saved st.t])).sem = some p) (hp:p.2[st.h.length]? = some (.saved t)) :
    (OC τ Γ fn vs st).sem = some (p.1,.all ⟨t,p.2.set st.h.length .dead⟩):=by
  unfold OC
  rw [CW,h]
  show (match p.2[st.h.length]? with | some (.saved t)=>T.leaf (p.1,Res.all ⟨t,p.2.set st.h.length .dead⟩) | _=>.fail).sem = _
  rw [hp]
  rfl
theorem Agc (a:Int) (n:Nat) (f:Nat->E6) (hn:n <= 16) (b:Nat) (g:Nat->E6) (tt:Int) (ts:List V) (hb:b < n) (hst:CB (mbF g) n b = true):∃ F,Gx F ∧
    (Dh 55 [.ptr 2 0,nV b] ⟨ts,(hpD a n f g tt b)⟩).sem = some (.tup [],.all ⟨ts.map F,(hpD a n f g tt (b+1)) ++ [Blk.dead]⟩):=by
  obtain ⟨l1,l2,l3,l4⟩:=ED hb hst
  have hL:=AC Jw
  have h1:∃ F,Gx F ∧ (A3 (Iu (Bc Jw)) (Kh a n (kkN n g) b (fun i=>Bk n f i) g tt (fun _=>.nilS) (evF n g (dnF n g (Bw (mbF g) n) b 0)) (rfF n g (dnF n g (Bw (mbF g) n) b 0)) (lnP n g b 0) (coP n g b 0) ts) 17 (Ro a n (kkN n g) b (fun i=>Bk n f i) g tt (fun _=>.nilS) (evF n g (dnF n g (Bw (mbF g) n) b 0)) (rfF n g (dnF n g (Bw (mbF g) n) b 0)) (lnP n g b 0) (coP n g b 0) ts 0 (loF n g b) (-1) 0 (evF n g (dnF n g (Bw (mbF g) n) b 0)) (rfF n g (dnF n g (Bw (mbF g) n) b 0)) (lnP n g b 0) (coP n g b 0) (AfJ a n (kkN n g) b (fun i=>Bk n f i) g tt (fun _=>.nilS) (evF n g (dnF n g (Bw (mbF g) n) b 0)) (rfF n g (dnF n g (Bw (mbF g) n) b 0)) (lnP n g b 0) (coP n g b 0) ts))).sem = _ :=
    Ahq (Bc Jw) a n b (fun i=>Bk n f i) g tt (fun _=>.nilS) (evF n g (dnF n g (Bw (mbF g) n) b 0)) (rfF n g (dnF n g (Bw (mbF g) n) b 0)) (lnP n g b 0) (coP n g b 0) ts hb hst (by omega) (Ch (mbF g) n b - 1) 0 ts _ 17 (by omega) (by omega)
  obtain ⟨F,hF,h1⟩:=h1
  refine ⟨F,hF,?_⟩
  have hin:Af (ile 0 (ofNat b)) (ilt (ofNat b) (ofNat n)) = true:=Ay hb
  have hlc:(evF n g (dnF n g (Bw (mbF g) n) b 0) b).loc = loF n g b:=by rw [CL hb]
  have hw:=Aje (Bc Jw) (isP (Bc Jw) 0 (SF a n (kkN n g) b (fun i=>Bk n f i) g tt (fun _=>.nilS) (evF n g (dnF n g (Bw (mbF g) n) b 0)) (rfF n g (dnF n g (Bw (mbF g) n) b 0)) (lnP n g b 0) (coP n g b 0) (ts.map F) 0 0 0 0 (evF n g (dnF n g (Bw (mbF g) n) (b+1) 0)) (rfF n g (dnF n g (Bw (mbF g) n) (b+1) 0)) (lnP n g (b+1) 0) (coP n g (b+1) 0))) a n (kkN n g) b (fun i=>Bk n f i) g tt (fun _=>.nilS) (evF n g (dnF n g (Bw (mbF g) n) b 0)) (rfF n g (dnF n g (Bw (mbF g) n) b 0)) (lnP n g b 0) (coP n g b 0) ts (ts.map F) 0 0 0 0 (evF n g (dnF n g (Bw (mbF g) n) (b+1) 0)) (rfF n g (dnF n g (Bw (mbF g) n) (b+1) 0)) (lnP n g (b+1) 0) (coP n g (b+1) 0) hin (decide_eq_true hb)
  rw [hlc] at hw
  have hw:=hw (Ak h1)
  have e:=Lo (τ:=tab) (G:=Gl) (fn:=Try.f55) (CLe.refl (Ao Tn)) (Ax (k:=0) hL hL) _ hw
  rw [WX]
  exact Se (st:=⟨ts,(hpD a n f g tt b)⟩) (Γ:=AR Gl Tn Jw) e rfl
theorem Yc (L:LT) (a:Int) (n:Nat) (f:Nat->E6) (hn:n <= 16) (g:Nat->E6) (tt:Int) (hk:∃ k,k < n ∧ mbF g k = true):∀ (e b:Nat) (j:Nat->V) (q:Nat),n = b+e->e < q ->
    (A3 (GR L) (JB a n f) q (KM a n f b (kkN n g) tt g (evF n g (dnF n g (Bw (mbF g) n) b 0)) (rfF n g (dnF n g (Bw (mbF g) n) b 0)) (lnP n g b 0) (coP n g b 0) j)).sem = some (QE a n f n (kkN n g) tt g (evF n g (dnF n g (Bw (mbF g) n) n 0)) (rfF n g (dnF n g (Bw (mbF g) n) n 0)) (lnP n g n 0) (coP n g n 0))
  | 0,b,j,q+1,h,_=>by
    have:n = b:=by omega
    subst this
    rw [show GR L = A9 tab ⟨Dh,L,Gl⟩ (Av Try.f14 6) 6 from rfl]
    exact Ab (Ah1 L a n f n _ _ g _ _ _ _ j (A8 (Nat.le_refl _)))
  | e+1,b,j,q+1,h,h2=>by
    have hl:b < n:=by omega
    have hx:=Jm (a:=b) (n:=n) (by omega) (by omega)
    have hlt:(b+(n - 1)) % n < n:=Nat.mod_lt _ (by omega)
    have hin:Af (ile 0 (Ad (wr .i64 (As (wr .i64 (Ae (ofNat b) (ofNat n))) 1)) (ofNat n))) (ilt (Ad (wr .i64 (As (wr .i64 (Ae (ofNat b) (ofNat n))) 1)) (ofNat n)) (ofNat n)) = true:=by rw [hx]; exact Ay hlt
    have hnl:nlt (toN (Ad (wr .i64 (As (wr .i64 (Ae (ofNat b) (ofNat n))) 1)) (ofNat n))) n = true:=by rw [hx]; exact decide_eq_true hlt
    have next:=fun j=>Yc L a n f hn g tt hk e (b+1) j q (by omega) (by omega)
    cases hst:CB (mbF g) n b with
    | false =>
      have hm:Au (g (toN (Ad (wr .i64 (As (wr .i64 (Ae (ofNat b) (ofNat n))) 1)) (ofNat n)))) = false:=by rw [hx]; exact hst
      rw [show GR L = A9 tab ⟨Dh,L,Gl⟩ (Av Try.f14 6) 6 from rfl,Ab (Ah0 L a n f b (kkN n g) tt g (evF n g (dnF n g (Bw (mbF g) n) b 0)) (rfF n g (dnF n g (Bw (mbF g) n) b 0)) (lnP n g b 0) (coP n g b 0) j (ofNat_lt hl) (F2 (by omega)) hin hnl hm),Aw,Aq hl (by omega)]
      have hd:dnF n g (Bw (mbF g) n) b 0 = dnF n g (Bw (mbF g) n) (b+1) 0:=by
        funext i
        unfold dnF
        by_cases hi:i < n
        · rw [WK hi hk hst]
        · rw [decide_eq_false hi]; rfl
      rw [hd,RR hst,ZC (RR hst)]
      exact next (fun _=>.und)
    | true =>
      have hm:Au (g (toN (Ad (wr .i64 (As (wr .i64 (Ae (ofNat b) (ofNat n))) 1)) (ofNat n)))) = true:=by rw [hx]; exact hst
      obtain ⟨F,hF,hc⟩:=Agc a n f hn b g tt (O2 n b g j) hl hst
      have hts:(O2 n b g j).map F = Tt n b (fun i=>F (nth (O2 n b g j) i)):=by
        have:(O2 n b g j).map F = slW (F (.ptr 0 0)) (F (nV n)) (F (.ptr 2 0)) (F (nV n)) (F (nV b)) (fun i=>F (nth (O2 n b g j) i)):=Xp n b g j F
        rw [this,hF.2 0 0 (by omega),hF.2 2 0 (by omega)]
        (try unfold nV); unfold iV
        rw [hF.1,hF.1]
        rfl
      rw [hts] at hc
      have hr:=fun q55=>Ahz Abf a n f b (kkN n g) tt g (evF n g (dnF n g (Bw (mbF g) n) b 0)) (rfF n g (dnF n g (Bw (mbF g) n) b 0)) (lnP n g b 0) (coP n g b 0) (fun i=>F (nth (O2 n b g j) i)) (evF n g (dnF n g (Bw (mbF g) n) (b+1) 0)) (rfF n g (dnF n g (Bw (mbF g) n) (b+1) 0)) (lnP n g (b+1) 0) (coP n g (b+1) 0) q55 j (ofNat_lt hl) (F2 (by omega)) hin hnl hm
      rw [Aab] at hr
      have hr:=hr (isC Dh 55 (.tup [],.all ⟨Tt n b (fun i=>F (nth (O2 n b g j) i)),(hpD a n f g tt (b+1)) ++ [Blk.dead]⟩)) (Sd hc)
      have hr':=CJ (f':=GR L) (l:=JB a n f) (Lq (τ:=tab) (G:=Gl) (Yw (CLe.refl Dh)) (Vc L) (Av Try.f14 6) 6 (KM a n f b (kkN n g) tt g (evF n g (dnF n g (Bw (mbF g) n) b 0)) (rfF n g (dnF n g (Bw (mbF g) n) b 0)) (lnP n g b 0) (coP n g b 0) j)) hr
      rw [Ab hr',Aw,Aq hl (by omega)]
      exact next (fun _=>.und)
def ttN (n:Nat) (g:Nat->E6):Nat:=Aj (obF g) n
def Tu (a:Int) (n:Nat) (g:Nat->E6):V:=.agg [iV a,.ref 0,.ref 1,iV (ofNat (ttN n g)),iV (ofNat (kkN n g)),.ref 2,.jref 3]
def Tv (n:Nat) (g:Nat->E6):List Blk:=[.row 44 6 n (fun i=>eV (g i)),.row 40 5 n (fun i=>evV (evF n g (fun _=>true) i)),.row 3 1 n (fun i=>iV (rfF n g (fun _=>true) i)),
  .jag ⟨25,1,kkN n g,fun _=>.und,0,3,1,fun _=>true,lnN (mbF g) (wrF g) n,fun k i=>iV (ofNat (coN (mbF g) (wrF g) n k i))⟩]
def noV:V:=.agg [iV 0,.ref 0,.ref 1,iV 0,iV 0,.ref 2,.jref 3]
def noH:List Blk:=[.row 44 6 0 (fun _=>.und),.row 40 5 0 (fun _=>.und),.row 3 1 0 (fun _=>.und),.jag ⟨25,1,0,fun _=>.und,0,3,1,fun _=>true,fun _=>0,fun _ _=>.und⟩]
def ofT:List V->T (V × List Blk)
  | [.val (.int .i64 a),v]=>apL v fun n f=>.br (AL n) (.br (ieq (B6 a n f) 0) (.leaf (.tup [Tu a n (shG n f),iV 0,iV 0],Tv n (shG n f))) (.leaf (.tup [noV,iV (B6 a n f),iV (Gt a n f)],noH))) .fail
  | _=>.fail
theorem JU {n i:Nat} {f:Nat->E6} (h:i < n):shG n f i = Bk n f ((shQ n f+i) % n):=by
  unfold shG AfW
  rw [decide_eq_true h]
  rfl
theorem OB {a:Int} {n:Nat} {f g:Nat->E6} (h:IsCycle a n f) (he:∀ i,i < n->g i = f i):IsCycle a n g:=by
  have c1:∀ (p:E6->Bool) k,k <= n->Aj (fun i=>p (g i)) k = Aj (fun i=>p (f i)) k:=fun p k hk=>GP fun i hi=>by rw [he i (by omega)]
  have c2:∀ (p:E6->Bool) i,i < n->A0 (fun k=>p (g k)) n i = A0 (fun k=>p (f k)) n i:=fun p i hi=>by
    rw [Hf hi,Hf hi]
    unfold Ba
    rw [c1 p i (by omega),c1 p n (Nat.le_refl _)]
  have hlo:=h.lo
  refine ⟨h.arch,h.lo,h.hi,fun i hi=>?_,fun i hi=>?_,?_,?_,fun i hi=>?_,fun i hi=>?_⟩
  · have:=h.legal i hi
    unfold Cu at this ⊢
    rw [he i hi]
    exact this
  · have:=h.meets i hi
    unfold EX at this ⊢
    rw [he i hi,he _ (Nat.mod_lt _ (by omega))]
    exact this
  · rw [c1 Az n (Nat.le_refl _)]; exact h.outer
  · rw [c1 Au n (Nat.le_refl _)]; exact h.moves
  · have:=h.writes i hi
    unfold AG Ea at this ⊢
    have e:(fun i=>isW (g i)) i = (fun i=>isW (f i)) i:=by show isW (g i) = isW (f i); rw [he i hi]
    rw [e,c2 Au i hi,GP (q:=Cs (A0 (fun k=>Au (f k)) n) (fun i=>isW (f i)) (A0 (fun k=>Au (f k)) n i)) fun k hk=>by
      unfold Cs
      rw [c2 Au k hk]
      show Af _ (isW (g k)) = Af _ (isW (f k))
      rw [he k hk]]
    exact this
  · have:=h.crowd i hi
    unfold AG Ea at this ⊢
    rw [c2 Az i hi,GP (q:=Cs (A0 (fun k=>Az (f k)) n) (fun _=>true) (A0 (fun k=>Az (f k)) n i)) fun k hk=>by
      unfold Cs
      rw [c2 Az k hk]]
    exact this
theorem Jd {p:Nat->Bool}:∀ {n:Nat},0 < Aj p n->∃ k,k < n ∧ p k = true
  | 0,h=>by simp [Aj] at h
  | n+1,h=>by
    cases hp:p n with
    | true=>exact ⟨n,Nat.lt_succ_self n,hp⟩
    | false =>
      rw [B2 hp] at h
      obtain ⟨k,h1,h2⟩:=Jd h
      exact ⟨k,by omega,h2⟩
theorem Lx {a:Int} {n:Nat} {f:Nat->E6} (h:IsCycle a n f):IsCycle a n (fun i=>Bk n f i):=by
  have h1:=IP n (fun i=>Bv (f i))
  have h2:=h.lo
  exact h.turned (show BR n (fun i=>Bv (f i)) < n by omega)
theorem MP {a:Int} {n:Nat} {f:Nat->E6} (h:IsCycle a n f):Fe (fun i=>Az (Bk n f i)) n < n ∧ Az (Bk n f (Fe (fun i=>Az (Bk n f i)) n)) = true ∧ (∀ i,i < Fe (fun i=>Az (Bk n f i)) n->Az (Bk n f i) = false) ∧ shQ n f < n:=by
  have h2:=h.lo
  have h3:=(Lx h).outer
  obtain ⟨k,h4,h5⟩:=Jd (p:=fun i=>Az (Bk n f i)) (n:=n) (by omega)
  obtain ⟨h6,h7,h8⟩:=En (p:=fun i=>Az (Bk n f i)) h4 h5
  exact ⟨by omega,h7,h8,Nat.mod_lt _ (by omega)⟩
theorem Fo {a:Int} {n:Nat} {f:Nat->E6} (h:IsCycle a n f):IsCycle a n (shG n f) :=
  OB ((Lx h).turned (MP h).2.2.2) fun i hi=>JU hi
theorem PZ {p:Nat->Bool} {n:Nat} (h:2 <= Aj p n):rN p n n = Aj p n:=by
  have hn:0 < n:=by
    rcases Nat.eq_zero_or_pos n with h0 | h0
    · subst h0; simp [Aj] at h
    · exact h0
  have h1:=Yr p n (n - 1) (by omega)
  rw [show n - 1+1 = n by omega] at h1
  rw [h1]
  have h2:=Ly p (n - 1)
  rw [show n - 1+1 = n by omega] at h2
  split <;> omega
theorem RP {Γ:Cx} {zs:List (Nat × List (Nat × V))} {loops:List (Nat × Lp)} (h:Γ.loop = C2 zs loops):BX Γ:=fun id f st r hr=>by
  rw [h] at hr
  have by':∀ st,(Bc loops id f st).sem = some r->∃ l m,(A3 f l m st).sem = some r:=fun st hr=>by
    unfold Bc at hr
    split at hr
    · exact ⟨_,_,hr⟩
    · cases hr
  unfold C2 at hr
  split at hr
  · obtain ⟨l,m,h1⟩:=by' _ hr
    exact ⟨_,l,m,Rd _ _,h1⟩
  · obtain ⟨l,m,h1⟩:=by' _ hr
    exact ⟨_,l,m,LE.refl _,h1⟩
def Agl:List (Nat × List (Nat × V)):=[(2,[(3,eV zE)]),(4,[(4,evV ⟨0,0,0,0,0⟩),(5,iV (-1))]),(6,[(7,iV 0)])]
def Acw (a:Int) (n:Nat) (f:Nat->E6):List (Nat × Lp):=[(0,Y9 a n f),(2,N6 a n f),(4,N5 a n f),(6,JB a n f)]
noncomputable def WO (a:Int) (n:Nat) (f:Nat->E6):Cx:=⟨Dh,C2 Agl (Acw a n f),Gl⟩
theorem Zl (a:Int) (n:Nat) (f:Nat->E6) (z:Nat) (j:Nat->V):CI (J2 a n f z 0 (fun _=>.und) j) [(3,eV zE)] = J2 a n f z 0 (fun _=>eV zE) j:=by kernel_rfl
theorem Zk (a:Int) (n:Nat) (f:Nat->E6) (z:Nat) (g:Nat->E6):CI (M0 a n f z g) [(4,evV ⟨0,0,0,0,0⟩),(5,iV (-1))] = PN a n f 0 0 0 0 g (thF n g) (loF n g) (fun _=>-1) (fun _=>evV ⟨0,0,0,0,0⟩) (fun _=>0) (fun i=>nth (M0 a n f z g).t i):=by kernel_rfl
theorem Zj (a:Int) (n:Nat) (f:Nat->E6) (q m kk:Nat) (tt:Int) (g:Nat->E6) (th lo r:Nat->Int) (x:Nat->Ev5) (pl:Int->Int):CI (Mz a n f q m kk tt g th lo r x pl) [(7,iV 0)] = KM a n f 0 kk tt g x r (fun _=>0) (fun _ _=>0) (fun i=>nth (Mz a n f q m kk tt g th lo r x pl).t i):=by kernel_rfl
theorem Ahh (G:Nat->E6):upE 0 G = fun _=>zE:=by funext i; simp [upE]
theorem AbW (n:Nat) (g:Nat->E6):upX n g 0 = fun _=>⟨0,0,0,0,0⟩:=by funext i; simp [upX]
theorem Ai0 (n:Nat) (g:Nat->E6):plM n g 0 = fun _=>0:=rfl
theorem Z1 (n:Nat) (g:Nat->E6):dnF n g (Bw (mbF g) n) 0 0 = fun _=>false:=by
  funext j
  unfold dnF
  rw [Z0]
  simp
theorem U2 (n:Nat) (g:Nat->E6):upX n g n = evF n g (dnF n g (Bw (mbF g) n) 0 0):=by
  rw [Z1]
  funext i
  unfold upX
  by_cases hi:i < n
  · rw [decide_eq_true hi]; rfl
  · rw [decide_eq_false hi]
    unfold evF
    rw [decide_eq_false hi]
    rfl
theorem AhF (n:Nat) (g:Nat->E6):rfF n g (dnF n g (Bw (mbF g) n) 0 0) = fun _=>-1:=by
  rw [Z1]
  rfl
def Ain (n:Nat) (g:Nat->E6):List Blk:=[.row 44 6 n (fun i=>eV (g i)),.row 40 5 n (fun i=>evV (evF n g (dnF n g (Bw (mbF g) n) n 0) i)),.row 3 1 n (fun i=>iV (rfF n g (dnF n g (Bw (mbF g) n) n 0) i)),
  .jag ⟨25,1,kkN n g,fun _=>.nilS,0,3,1,fun _=>true,lnP n g n 0,fun k i=>iV (coP n g n 0 k i)⟩]
theorem Af0 {n:Nat} {g:Nat->E6} (hk:0 < kkN n g):AB (Ain n g) (Tv n g):=by
  have hn:0 < n:=by
    rcases Nat.eq_zero_or_pos n with h0 | h0
    · subst h0; simp [kkN,Aj] at hk
    · exact h0
  obtain ⟨k0,hk0,hm⟩:=Jd hk
  have hd:∀ i,i < n->dnF n g (Bw (mbF g) n) n 0 i = true:=fun i hi=>by
    unfold dnF
    rw [decide_eq_true hi,SI]
    · rfl
    · exact Gm hn
  refine .cons (fun _ _=>rfl) (.cons (fun i hi=>?_) (.cons (fun i hi=>?_) (.consB (.jag (fun _ _=>.inr rfl) (fun _ _=>rfl) (fun k hk'=>?_) (fun k hk' q hq=>?_)) (.refl []))))
  · rw [CL hi,CL hi,hd i hi]
  · unfold rfF
    rw [hd i hi]
  · have hk':k < kkN n g:=hk'
    have:=(Gz hk').1
    show lnN _ _ n k = lnP n g n 0 k
    unfold lnP
    rw [if_pos hk',if_pos this]
  · have hk':k < kkN n g:=hk'
    have hq:q < lnP n g n 0 k:=hq
    show iV _ = iV _
    unfold coP
    rw [if_pos hq]
theorem AdC {a:Int} {n:Nat} {f:Nat->E6} (h8:AL n = true) (hc:ieq (B6 a n f) 0 = true) :
    (A1 (Al tab (WO a n f) Try.f14 [iV a,A2 n f] [])).sem = some (.tup [Tu a n (shG n f),iV 0,iV 0],Ain n (shG n f)):=by
  have hy:=Es hc
  have hlo:=hy.lo
  have hhi:=hy.hi
  have hL:=DI Agl (Acw a n f)
  obtain ⟨z1,z2,z3,z4⟩:=MP hy
  have hg:=Fo hy
  have hko:rN (obF (shG n f)) n n = ttN n (shG n f):=PZ hg.outer
  have hkm:rN (mbF (shG n f)) n n = kkN n (shG n f):=PZ hg.moves
  have hkl:kkN n (shG n f) <= n:=Bd _ _
  have c1:Af (ilt 0 (ofNat n)) (Af (Ca n) (BL 8 (ofNat n) (ofNat n))) = true:=by
    unfold Af ilt Ca BL
    simp only [Int.ofNat_eq_natCast,Bool.and_eq_true,decide_eq_true_eq]
    omega
  have c2:BL 24 (ofNat (kkN n (shG n f))) (ofNat (kkN n (shG n f))) = true:=by
    unfold BL
    simp only [Int.ofNat_eq_natCast,Bool.and_eq_true,decide_eq_true_eq]
    omega
  have hm:∃ k,k < n ∧ mbF (shG n f) k = true:=Jd (p:=mbF (shG n f)) (by have:=hg.moves; show 0 < Aj (fun k=>Au (shG n f k)) n; omega)
  unfold WO
  refine A6 (Ax (Ax (Ax (Ax hL hL) hL) hL) hL) _ (AjH _ _ _ _ _ a n f (shQ n f) n (kkN n (shG n f)) (ofNat (ttN n (shG n f))) (shG n f) (thF n (shG n f)) (loF n (shG n f)) (fun _=>-1) (upX n (shG n f) n) (plM n (shG n f) n)
    (evF n (shG n f) (dnF n (shG n f) (Bw (mbF (shG n f)) n) n 0)) (rfF n (shG n f) (dnF n (shG n f) (Bw (mbF (shG n f)) n) n 0)) (lnP n (shG n f) n 0) (coP n (shG n f) n 0) h8 hc hy.may c1 BY c2 (Ak ?_) (Ak ?_) (Ak ?_) (Ak ?_))
  · show (A3 _ (Y9 a n f) (n+1) _).sem = _
    exact Acm _ a n f (by omega) _ z1 z2 z3 _ 0 _ (n+1) (Nat.zero_add _).symm (by omega)
  · show (A3 _ (N6 a n f) (n+1) (CI _ [(3,eV zE)])).sem = _
    rw [Zl]
    have h:=fun L j=>Ye L a n f hhi (shQ n f) z4 n 0 j (n+1) (by omega) (by omega)
    rw [Ahh] at h
    exact h _ _
  · show (A3 _ (N5 a n f) (n+1) (CI _ [(4,evV ⟨0,0,0,0,0⟩),(5,iV (-1))])).sem = _
    rw [Zk]
    have h:=fun L j=>Yd L a n f hhi (shG n f) n 0 j (n+1) (by omega) (by omega)
    rw [AbW,Ai0,hko,hkm] at h
    exact h _ _
  · show (A3 _ (JB a n f) (n+1) (CI _ [(7,iV 0)])).sem = _
    rw [Zj]
    have h:=fun L j=>Yc L a n f hhi (shG n f) (ofNat (ttN n (shG n f))) hm n 0 j (n+1) (by omega) (by omega)
    rw [<- U2,AhF,Acz,AiX] at h
    exact h _ _
theorem p14:AD Try.prog Gl 14 ofT:=by
  refine A5 AO AP Try.func14 (by kernel_rfl) (by kernel_rfl) fun vs v h' h=>?_
  unfold ofT at h
  split at h
  · rename_i a u
    obtain ⟨n,f,ha,h1⟩:=BU h
    obtain ⟨h8,hq⟩:=Ag h1
    have hA:BA [iV a,u] [iV a,A2 n f]:=fun S w cs hv=>by
      obtain ⟨c,l,rfl,q1,d,l',rfl,q2,q3⟩:=hv
      exact ⟨c,_,rfl,q1,d,l',rfl,ha S w d q2,q3⟩
    have hx:Bm Try.prog (WO a n f).base ∧ BX (WO a n f):=⟨WW,RP rfl⟩
    cases hc:ieq (B6 a n f) 0 with
    | true =>
      rw [hc] at hq
      have:=Ac hq
      simp only [Prod.mk.injEq] at this
      obtain ⟨rfl,rfl⟩:=this
      have hg:=Fo (Es hc)
      have hm:=hg.moves
      exact ⟨_,WO a n f,_,hA,rfl,hx.1,hx.2,AdC h8 hc,Af0 (by show 0 < Aj (fun k=>Au (shG n f k)) n; omega)⟩
    | false =>
      rw [hc] at hq
      have:=Ac hq
      simp only [Prod.mk.injEq] at this
      obtain ⟨rfl,rfl⟩:=this
      exact ⟨_,WO a n f,_,hA,rfl,hx.1,hx.2,AjI _ a n f h8 hc,AB.refl _⟩
  · cases h
end Go.Proofs.Ytjhnfomefcngfaa.Sh
