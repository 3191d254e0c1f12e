/-
  Layer 7: the program's shape of a cycle. No conditions.
-/
import Derived.Test.YtjhnfomefcngfaaCyT
import Derived.Test.YtjhnfomefcngfaaCyU
namespace Go.Proofs.Ytjhnfomefcngfaa.Sh
open Go.Sy Ed
open Int (ofNat)
set_option maxHeartbeats 1000000
set_option maxRecDepth 4000
noncomputable def Ah6:List (Nat × (List V->T (V × List Blk))):=[(50,Xp),(51,O7),(52,BR λe=>bV (As e)),(53,Agh),(54,BR λe=>bV (Ar e))]
theorem AaO:AC Try.prog Gl Ah6:=.cons p48 <| .cons p65 <| .cons p52 <| .cons p53 <| .cons p54 .nil
def JD:List (Nat × Lp):=[(0,⟨(bmK 84 0 [0,1,4,5,6,7,23,24]),9,bmK 84 0 [],9,17⟩)]
noncomputable def Dt:FuncId->List V->St->T (V × Res):=KQ [(55,KB tab (AT Gl TI JD) Try.f55)] (Aq Ah6)
theorem Xt:Bj Try.prog ⟨Dt,Gl⟩:=Hm AR (.cons rfl AQ (AS Vb JD).1 (AS Vb JD).2 Try.func55 (by kernel_rfl) (by kernel_rfl) .nil) (Ep rfl AaO)
theorem AjU (L:LT) (a:Int) (n:Nat) (f:Nat->E6) (h0:AN n = true) (h1:ieq (BS a n f) 0 = false):(A2 (An tab ⟨Dt,L,Gl⟩ Try.f14 [iV a,.sl 6 n λi=>eV (f i)] [])).sem = some ((.tup [.agg [iV 0,.ref 0,.ref 1,iV 0,iV 0,.ref 2,.jref 3],iV (BS a n f),iV (LL a n f)]),[.row 44 6 0 (λ_=>.und),.row 40 5 0 (λ_=>.und),r3Z,jgZ]):=Aa [true,true,true] [Ay n (λ_=>true),AN n,Ah (ieq (BS a n f) 0)] (by kernel_rfl) (by simp only [h0,h1,Ax] <;> rfl)
def YW (a:Int) (n:Nat) (f:Nat->E6):Lp:=⟨(bmK 164 0 [0,4,5,6,9,11,12,39,40]),2,bmK 164 0 [0,4,5,6,9,11,12],2,n+1⟩
def Yb (a:Int) (n:Nat) (f:Nat->E6) (b:Nat) (j:Nat->V):St:=⟨(jsV 164 0 j [(0,iV a),(4,.ptr 0 0),(5,iV 0),(6,iV 0),(9,.ref 1),(11,nV n),(12,iV 0),(39,nV n),(40,nV b)]),[c7Z,.row 44 6 n (λi=>eV (Bl n f i))]⟩
def ZG (a:Int) (n:Nat) (f:Nat->E6) (b:Nat):Ex × St:=(.ex 0,⟨(jsV 164 0 (λ_=>.und) [(0,iV a),(4,.ptr 0 0),(5,iV 0),(6,iV 0),(9,.ref 1),(11,nV n),(12,nV b)]),[c7Z,.row 44 6 n (λi=>eV (Bl n f i))]⟩)
noncomputable def OA (L:LT):St->T (Ex × St):=λst=>AG tab ⟨Dt,L,Gl⟩ (A1 Try.f14 0) 0 st
section
variable (L:LT) (a:Int) (n:Nat) (f:Nat->E6) (b:Nat)  (j:Nat->V)
include L a n f b j
theorem Aim (h0:ilt (ofNat b) (ofNat n) = true) (h13:ile 0 (ofNat b) = true) (h1:nlt b n = true) (h2:As (Bl n f b) = false):Aj (OA L) (YW a n f) (Yb a n f b j) = some (.nm,⟨(jsV 164 0 (λ_=>.und) [(0,(iV a)),(4,(.ptr 0 0)),(5,(iV 0)),(6,(iV 0)),(9,(.ref 1)),(11,(nV n)),(12,(iV 0)),(39,(nV n)),(40,(iV (wr .i64 (Ae (ofNat b) 1))))]),[c7Z,.row 44 6 n (λi=>eV (Bl n f i))]⟩):=Aa [true,true,true,false] [ilt (ofNat b) (ofNat n),Af (ile 0 (ofNat b)) (ilt (ofNat b) (ofNat n)),nlt b n,As (Bl n f b)] (by kernel_rfl) (by simp only [*] <;> rfl)
theorem Ail (h0:ilt (ofNat b) (ofNat n) = true) (h14:ile 0 (ofNat b) = true) (h1:nlt b n = true) (h2:As (Bl n f b) = true) (h3:ieq (ofNat n) 0 = false):Aj (OA L) (YW a n f) (Yb a n f b j) = some ((.ex 0),⟨(jsV 164 0 (λ_=>.und) [(0,(iV a)),(4,(.ptr 0 0)),(5,(iV 0)),(6,(iV 0)),(9,(.ref 1)),(11,(nV n)),(12,(iV (Ab (wr .i64 (Ae (ofNat b) 1)) (ofNat n))))]),[c7Z,.row 44 6 n (λi=>eV (Bl n f i))]⟩):=Aa [true,true,true,true,false] [ilt (ofNat b) (ofNat n),Af (ile 0 (ofNat b)) (ilt (ofNat b) (ofNat n)),nlt b n,As (Bl n f b),ieq (ofNat n) 0] (by kernel_rfl) (by simp only [*] <;> rfl)
end
def Ajb (a:Int) (n:Nat) (f:Nat->E6) :Nat->V:=lkV A9 [(1,(.sl 6 n (λi=>eV (f i)))),(7,(iV (BS a n f))),(8,(iV (LL a n f))),(10,(iV 0)),(21,(.tup [iV (BS a n f),iV (LL a n f)])),(22,(iV a)),(23,(.sl 6 n (λi=>eV (f i)))),(24,(.tup [iV (BS a n f),iV (LL a n f)])),(25,(iV (BS a n f))),(26,(iV (LL a n f))),(27,(iV (BS a n f))),(28,(bV (Ah (ieq (BS a n f) 0)))),(32,(.tup [.ref 1,iV 0])),(33,(.sl 6 n (λi=>eV (f i)))),(34,(.tup [.ref 1,iV 0])),(35,(.ref 1)),(36,(iV 0)),(37,(.ref 1)),(38,(nV n))]
def NR (a:Int) (n:Nat) (f:Nat->E6):Lp:=⟨(bmK 164 0 [0,4,5,6,9,11,12,14,55,56]),7,bmK 164 0 [0,4,5,6,11,14],7,n+1⟩
def JK (a:Int) (n:Nat) (f:Nat->E6) (q b:Nat) (y:Nat->V) (j:Nat->V):St:=⟨(jsV 164 0 j [(0,iV a),(4,.ptr 0 0),(5,iV 0),(6,iV 0),(9,.ref 1),(11,nV n),(12,nV q),(14,.ptr 2 0),(55,nV n),(56,nV b)]),[c7Z,.row 44 6 n (λi=>eV (Bl n f i)),.cells [iV a,.ref 3,.ref 4,iV 0,iV 0,.ref 5,.jref 6],.row 44 6 b y,.row 40 5 0 (λ_=>.und),r3Z,jgZ]⟩
def Rj (a:Int) (n:Nat) (f:Nat->E6) (q b:Nat) (y:Nat->V):Ex × St:=(.ex 2,⟨(jsV 164 0 (λ_=>.und) [(0,iV a),(4,.ptr 0 0),(5,iV 0),(6,iV 0),(11,nV n),(14,.ptr 2 0)]),[c7Z,.row 44 6 n (λi=>eV (Bl n f i)),.cells [iV a,.ref 3,.ref 4,iV 0,iV 0,.ref 5,.jref 6],.row 44 6 b y,.row 40 5 0 (λ_=>.und),r3Z,jgZ]⟩)
noncomputable def IN (L:LT):St->T (Ex × St):=λst=>AG tab ⟨Dt,L,Gl⟩ (A1 Try.f14 2) 2 st
section
variable (L:LT) (a:Int) (n:Nat) (f:Nat->E6) (q b:Nat) (y:Nat->V)  (j:Nat->V)
include L a n f q b y j
theorem Aii (h0:ilt (ofNat b) (ofNat n) = false):Aj (IN L) (NR a n f) (JK a n f q b y j) = some ((.ex 2),⟨(jsV 164 0 (λ_=>.und) [(0,(iV a)),(4,(.ptr 0 0)),(5,(iV 0)),(6,(iV 0)),(11,(nV n)),(14,(.ptr 2 0))]),[c7Z,.row 44 6 n (λi=>eV (Bl n f i)),.cells [iV a,.ref 3,.ref 4,iV 0,iV 0,.ref 5,.jref 6],.row 44 6 b y,.row 40 5 0 (λ_=>.und),r3Z,jgZ]⟩):=Aa [false] [ilt (ofNat b) (ofNat n)] (by kernel_rfl) (by simp only [h0] <;> rfl)
theorem Aih (h0:ilt (ofNat b) (ofNat n) = true) (h1:ieq (ofNat n) 0 = false) (h13:Af (ile 0 (Ab (wr .i64 (Ae (ofNat q) (ofNat b))) (ofNat n))) (ilt (Ab (wr .i64 (Ae (ofNat q) (ofNat b))) (ofNat n)) (ofNat n)) = true) (h14:nlt (toN (Ab (wr .i64 (Ae (ofNat q) (ofNat b))) (ofNat n))) n = true) (h15:Bh b 1 40 = true):Aj (IN L) (NR a n f) (JK a n f q b y j) = some (.nm,⟨(jsV 164 0 (λ_=>.und) [(0,(iV a)),(4,(.ptr 0 0)),(5,(iV 0)),(6,(iV 0)),(9,(.ref 1)),(11,(nV n)),(12,(nV q)),(14,(.ptr 2 0)),(55,(nV n)),(56,(iV (wr .i64 (Ae (ofNat b) 1))))]),[c7Z,.row 44 6 n (λi=>eV (Bl n f i)),.cells [iV a,.ref 3,.ref 4,iV 0,iV 0,.ref 5,.jref 6],.row 44 6 (Bp b 1) (AB b y (eV (Bl n f (toN (Ab (wr .i64 (Ae (ofNat q) (ofNat b))) (ofNat n)))))),.row 40 5 0 (λ_=>.und),r3Z,jgZ]⟩):=Aa [true,false,true,true,true] [ilt (ofNat b) (ofNat n),ieq (ofNat n) 0,Af (ile 0 (Ab (wr .i64 (Ae (ofNat q) (ofNat b))) (ofNat n))) (ilt (Ab (wr .i64 (Ae (ofNat q) (ofNat b))) (ofNat n)) (ofNat n)),nlt (toN (Ab (wr .i64 (Ae (ofNat q) (ofNat b))) (ofNat n))) n,Bh b 1 40] (by kernel_rfl) (by simp only [h13] <;> simp only [*] <;> rfl)
end
def Zo (a:Int) (n:Nat) (f:Nat->E6) (q:Nat):Nat->V:=lkV A9 [(1,.und),(2,.und),(3,.und),(7,.und),(8,.und),(10,.und),(13,.und),(15,.und),(16,.und),(17,.und),(18,.und),(19,.und),(20,.und),(21,.und),(22,.und),(23,.und),(24,.und),(25,.und),(26,.und),(27,.und),(28,.und),(29,.und),(30,.und),(31,.und),(32,.und),(33,.und),(34,.und),(35,.und),(36,.und),(37,.und),(38,.und),(39,.und),(40,.und),(41,.und),(42,.und),(43,.und),(44,.und),(45,.und),(46,.und),(47,.und),(48,.und),(49,.und),(50,.und),(51,.und),(52,.und),(53,(iV a)),(54,(.agg [iV a,.nilS,.nilS,iV 0,iV 0,.nilS,.nilS])),(57,.und),(58,.und),(59,.und),(60,.und),(61,.und),(62,.und),(63,.und),(64,.und),(65,.und),(66,.und),(67,.und),(68,.und),(69,.und),(70,.und),(71,.und),(72,.und),(73,.und),(74,.und),(75,.und),(76,.und),(77,.und),(78,.und),(79,.und),(80,.und),(81,.und),(82,.und),(83,.und),(84,.und),(85,.und),(86,.und),(87,.und),(88,.und),(89,.und),(90,.und),(91,.und),(92,.und),(93,.und),(94,.und),(95,.und),(96,.und),(97,.und),(98,.und),(99,.und),(100,.und),(101,.und),(102,.und),(103,.und),(104,.und),(105,.und),(106,.und),(107,.und),(108,.und),(109,.und),(110,.und),(111,.und),(112,.und),(113,.und),(114,.und),(115,.und),(116,.und),(117,.und),(118,.und),(119,.und),(120,.und),(121,.und),(122,.und),(123,.und),(124,.und),(125,.und),(126,.und),(127,.und),(128,.und),(129,.und),(130,.und),(131,.und),(132,.und),(133,.und),(134,.und),(135,.und),(136,.und),(137,.und),(138,.und),(139,.und),(140,.und),(141,.und),(142,.und),(143,.und),(144,.und),(145,.und),(146,.und),(147,.und),(148,.und),(149,.und),(150,.und),(151,.und),(152,.und),(153,.und),(154,.und),(155,.und),(156,.und),(157,.und),(158,.und),(159,.und),(160,.und),(161,.und),(162,.und),(163,.und)]
def NQ (a:Int) (n:Nat) (f:Nat->E6):Lp:=⟨(bmK 164 0 [0,4,5,6,11,14,16,17,18,80,81]),10,bmK 164 0 [4,5,6,11,14],7,n+1⟩
def Ql (a:Int) (n:Nat) (f:Nat->E6) (b m:Nat) (tt kk:Int) (g:Nat->E6) (th lo r:Nat->Int) (x:Nat->V) (pl:Int->Int) (j:Nat->V):St:=⟨(jsV 164 0 j [(0,iV a),(4,.ptr 0 0),(5,iV 0),(6,iV 0),(11,nV n),(14,.ptr 2 0),(16,.ref 7),(17,.ref 8),(18,.ref 9),(80,nV n),(81,nV b)]),[c7Z,.row 44 6 n (λi=>eV (Bl n f i)),.cells [iV a,.ref 3,.ref 4,iV tt,iV kk,.ref 5,.jref 6],.row 44 6 n (λi=>eV (g i)),.row 40 5 b x,.row 3 1 b (λi=>iV (r i)),jgZ,.row 3 1 n (λk=>iV (th k)),.row 3 1 n (λk=>iV (lo k)),.imap 76 m pl]⟩
def Ri (a:Int) (n:Nat) (f:Nat->E6) (b m:Nat) (tt kk:Int) (g:Nat->E6) (th lo r:Nat->Int) (x:Nat->V) (pl:Int->Int):Ex × St:=(.ex 4,⟨(jsV 164 0 (λ_=>.und) [(4,.ptr 0 0),(5,iV 0),(6,iV 0),(11,nV n),(14,.ptr 2 0)]),[c7Z,.row 44 6 n (λi=>eV (Bl n f i)),.cells [iV a,.ref 3,.ref 4,iV tt,iV kk,.ref 5,.jref 6],.row 44 6 n (λi=>eV (g i)),.row 40 5 b x,.row 3 1 b (λi=>iV (r i)),jgZ]⟩)
noncomputable def IM (L:LT):St->T (Ex × St):=λst=>AG tab ⟨Dt,L,Gl⟩ (A1 Try.f14 4) 4 st
section
variable (L:LT) (a:Int) (n:Nat) (f:Nat->E6) (b m:Nat) (tt kk:Int) (g:Nat->E6) (th lo r:Nat->Int) (x:Nat->V) (pl:Int->Int)  (j:Nat->V)
include L a n f b m tt kk g th lo r x pl j
theorem Aig (h0:ilt (ofNat b) (ofNat n) = false):Aj (IM L) (NQ a n f) (Ql a n f b m tt kk g th lo r x pl j) = some ((.ex 4),⟨(jsV 164 0 (λ_=>.und) [(4,(.ptr 0 0)),(5,(iV 0)),(6,(iV 0)),(11,(nV n)),(14,(.ptr 2 0))]),[c7Z,.row 44 6 n (λi=>eV (Bl n f i)),.cells [iV a,.ref 3,.ref 4,iV tt,iV kk,.ref 5,.jref 6],.row 44 6 n (λi=>eV (g i)),.row 40 5 b x,.row 3 1 b (λi=>iV (r i)),jgZ]⟩):=Aa [false] [ilt (ofNat b) (ofNat n)] (by kernel_rfl) (by simp only [h0] <;> rfl)
theorem Aif (h0:ilt (ofNat b) (ofNat n) = true) (h13:ile 0 (ofNat b) = true) (h1:nlt b n = true) (h2:Dr (th b) = true) (h14:Bh b 1 40 = true) (h15:nlt m 4611686018427387904 = true) (h16:Dr (wr .i64 (Ae (pl (th b)) 1)) = true) (h17:Bh b 1 8 = true):Aj (IM L) (NQ a n f) (Ql a n f b m tt kk g th lo r x pl j) = some (.nm,⟨(jsV 164 0 (λ_=>.und) [(0,(iV a)),(4,(.ptr 0 0)),(5,(iV 0)),(6,(iV 0)),(11,(nV n)),(14,(.ptr 2 0)),(16,(.ref 7)),(17,(.ref 8)),(18,(.ref 9)),(80,(nV n)),(81,(iV (wr .i64 (Ae (ofNat b) 1))))]),[c7Z,.row 44 6 n (λi=>eV (Bl n f i)),.cells [iV a,.ref 3,.ref 4,iV (sel (ilt tt (wr .i64 (Ae (th b) 1))) (wr .i64 (Ae (th b) 1)) tt),iV (sel (ilt kk (wr .i64 (Ae (lo b) 1))) (wr .i64 (Ae (lo b) 1)) kk),.ref 5,.jref 6],.row 44 6 n (λi=>eV (g i)),.row 40 5 (Bp b 1) (AB b x (.agg [iV (th b),iV (pl (th b)),iV ((g b)).src,iV (lo b),iV 0])),.row 3 1 (Bp b 1) (AB b (λi=>iV (r i)) (iV (-1))),jgZ,.row 3 1 n (λk=>iV (th k)),.row 3 1 n (λk=>iV (lo k)),.imap 76 (Bp m 1) (λi=>sel (ieq i (th b)) (wr .i64 (Ae (pl (th b)) 1)) (pl i))]⟩):=Aa (bbK 22 4194303) ((λc0 c1 c2=>[ilt (ofNat b) (ofNat n),c0,c1,c0,c1,c2,c0,c1,c0,c1,Bh b 1 40,c0,c1,c2,nlt m 4611686018427387904,c2,Dr (wr .i64 (Ae (pl (th b)) 1)),c0,c1,c0,c1,Bh b 1 8]) (Af (ile 0 (ofNat b)) (ilt (ofNat b) (ofNat n))) (nlt b n) (Dr (th b))) (by kernel_rfl) (by simp only [*] <;> rfl)
end
def JQ (a:Int) (n:Nat) (f:Nat->E6):Lp:=⟨(bmK 164 0 [4,11,14,145,146]),8,bmK 164 0 [4,14],8,n+1⟩
def Lg (a:Int) (n:Nat) (f:Nat->E6) (b kk:Nat) (tt:Int) (g:Nat->E6) (x:Nat->Ev5) (r:Nat->Int) (ln:Nat->Nat) (co:Nat->Nat->Int) (j:Nat->V):St:=⟨(jsV 164 0 j [(4,.ptr 0 0),(11,nV n),(14,.ptr 2 0),(145,nV n),(146,nV b)]),[c7Z,.row 44 6 n (λi=>eV (Bl n f i)),.cells [iV a,.ref 3,.ref 4,iV tt,nV kk,.ref 5,.jref 7],.row 44 6 n (λi=>eV (g i)),.row 40 5 n (λi=>evV (x i)),.row 3 1 n (λi=>iV (r i)),jgZ,.jag (Jag.mk 25 1 kk (λ_=>.nilS) 0 3 1 (λ_=>true) ln (λi k=>iV (co i k)))]⟩
def Rh (a:Int) (n:Nat) (f:Nat->E6) (b kk:Nat) (tt:Int) (g:Nat->E6) (x:Nat->Ev5) (r:Nat->Int) (ln:Nat->Nat) (co:Nat->Nat->Int):Ex × St:=(.ex 6,⟨(jsV 164 0 (λ_=>.und) [(4,.ptr 0 0),(14,.ptr 2 0)]),[c7Z,.row 44 6 n (λi=>eV (Bl n f i)),.cells [iV a,.ref 3,.ref 4,iV tt,nV kk,.ref 5,.jref 7],.row 44 6 n (λi=>eV (g i)),.row 40 5 n (λi=>evV (x i)),.row 3 1 n (λi=>iV (r i)),jgZ,.jag (Jag.mk 25 1 kk (λ_=>.nilS) 0 3 1 (λ_=>true) ln (λi k=>iV (co i k)))]⟩)
def TP (n b:Nat) (u:Nat->V):List V:=(jsV 164 0 u [(4,.ptr 0 0),(11,nV n),(14,.ptr 2 0),(145,nV n),(146,nV b)])
noncomputable def Ho (L:LT):St->T (Ex × St):=λst=>AG tab ⟨Dt,L,Gl⟩ (A1 Try.f14 6) 6 st
section
variable (L:LT) (a:Int) (n:Nat) (f:Nat->E6) (b kk:Nat) (tt:Int) (g:Nat->E6) (x:Nat->Ev5) (r:Nat->Int) (ln:Nat->Nat) (co:Nat->Nat->Int)  (j:Nat->V)
include L a n f b kk tt g x r ln co j
theorem AhV (h0:ilt (ofNat b) (ofNat n) = false):(((AG tab ⟨Dt,L,Gl⟩ (A1 Try.f14 6) 6 (Lg a n f b kk tt g x r ln co j)).bind λr=>T.leaf (IH (JQ a n f) r))).sem = some ((.ex 6),⟨(jsV 164 0 (λ_=>.und) [(4,(.ptr 0 0)),(14,(.ptr 2 0))]),[c7Z,.row 44 6 n (λi=>eV (Bl n f i)),.cells [iV a,.ref 3,.ref 4,iV tt,nV kk,.ref 5,.jref 7],.row 44 6 n (λi=>eV (g i)),.row 40 5 n (λi=>evV (x i)),.row 3 1 n (λi=>iV (r i)),jgZ,.jag (Jag.mk 25 1 kk (λ_=>.nilS) 0 3 1 (λ_=>true) ln (λi k=>iV (co i k)))]⟩):=Aa [false] [ilt (ofNat b) (ofNat n)] (by kernel_rfl) (by simp only [h0] <;> rfl)
theorem AhU (h0:ilt (ofNat b) (ofNat n) = true) (h1:ieq (ofNat n) 0 = false) (h14:Af (ile 0 (Ab (wr .i64 (Au (wr .i64 (Ae (ofNat b) (ofNat n))) 1)) (ofNat n))) (ilt (Ab (wr .i64 (Au (wr .i64 (Ae (ofNat b) (ofNat n))) 1)) (ofNat n)) (ofNat n)) = true) (h15:nlt (toN (Ab (wr .i64 (Au (wr .i64 (Ae (ofNat b) (ofNat n))) 1)) (ofNat n))) n = true) (h2:Ar (g (toN (Ab (wr .i64 (Au (wr .i64 (Ae (ofNat b) (ofNat n))) 1)) (ofNat n)))) = false):(((AG tab ⟨Dt,L,Gl⟩ (A1 Try.f14 6) 6 (Lg a n f b kk tt g x r ln co j)).bind λr=>T.leaf (IH (JQ a n f) r))).sem = some (.nm,⟨(jsV 164 0 (λ_=>.und) [(4,(.ptr 0 0)),(11,(nV n)),(14,(.ptr 2 0)),(145,(nV n)),(146,(iV (wr .i64 (Ae (ofNat b) 1))))]),[c7Z,.row 44 6 n (λi=>eV (Bl n f i)),.cells [iV a,.ref 3,.ref 4,iV tt,nV kk,.ref 5,.jref 7],.row 44 6 n (λi=>eV (g i)),.row 40 5 n (λi=>evV (x i)),.row 3 1 n (λi=>iV (r i)),jgZ,.jag (Jag.mk 25 1 kk (λ_=>.nilS) 0 3 1 (λ_=>true) ln (λi k=>iV (co i k)))]⟩):=Aa [true,false,true,true,false] [ilt (ofNat b) (ofNat n),ieq (ofNat n) 0,Af (ile 0 (Ab (wr .i64 (Au (wr .i64 (Ae (ofNat b) (ofNat n))) 1)) (ofNat n))) (ilt (Ab (wr .i64 (Au (wr .i64 (Ae (ofNat b) (ofNat n))) 1)) (ofNat n)) (ofNat n)),nlt (toN (Ab (wr .i64 (Au (wr .i64 (Ae (ofNat b) (ofNat n))) 1)) (ofNat n))) n,Ar (g (toN (Ab (wr .i64 (Au (wr .i64 (Ae (ofNat b) (ofNat n))) 1)) (ofNat n))))] (by kernel_rfl) (by simp only [h14] <;> simp only [*] <;> rfl)
end
theorem AhT (L:LT) (a:Int) (n:Nat) (f:Nat->E6) (b kk:Nat) (tt:Int) (g:Nat->E6) (x:Nat->Ev5) (r:Nat->Int) (ln:Nat->Nat) (co:Nat->Nat->Int) (u:Nat->V) (x':Nat->Ev5) (r':Nat->Int) (ln':Nat->Nat) (co':Nat->Nat->Int) (q55:List V->St->Bool) (j:Nat->V) (h0:ilt (ofNat b) (ofNat n) = true) (h1:ieq (ofNat n) 0 = false) (h14:Af (ile 0 (Ab (wr .i64 (Au (wr .i64 (Ae (ofNat b) (ofNat n))) 1)) (ofNat n))) (ilt (Ab (wr .i64 (Au (wr .i64 (Ae (ofNat b) (ofNat n))) 1)) (ofNat n)) (ofNat n)) = true) (h15:nlt (toN (Ab (wr .i64 (Au (wr .i64 (Ae (ofNat b) (ofNat n))) 1)) (ofNat n))) n = true) (h2:Ar (g (toN (Ab (wr .i64 (Au (wr .i64 (Ae (ofNat b) (ofNat n))) 1)) (ofNat n)))) = true) (hq55:(q55 [.ptr 2 0,nV b] ⟨(jsV 164 0 j [(4,(.ptr 0 0)),(11,(nV n)),(14,(.ptr 2 0)),(20,(nV b)),(145,(nV n)),(146,(nV b)),(147,(bV (ilt (ofNat b) (ofNat n)))),(148,(nV b)),(149,(.ptr 2 1)),(150,(.ref 3)),(151,(nV b)),(152,(nV n)),(153,(iV (wr .i64 (Ae (ofNat b) (ofNat n))))),(154,(iV (wr .i64 (Au (wr .i64 (Ae (ofNat b) (ofNat n))) 1)))),(155,(nV n)),(156,(iV (Ab (wr .i64 (Au (wr .i64 (Ae (ofNat b) (ofNat n))) 1)) (ofNat n)))),(157,(.ept 3 6 (toN (Ab (wr .i64 (Au (wr .i64 (Ae (ofNat b) (ofNat n))) 1)) (ofNat n))) 0)),(158,(eV (g (toN (Ab (wr .i64 (Au (wr .i64 (Ae (ofNat b) (ofNat n))) 1)) (ofNat n)))))),(159,(bV (Ar (g (toN (Ab (wr .i64 (Au (wr .i64 (Ae (ofNat b) (ofNat n))) 1)) (ofNat n))))))),(160,(nV b))]),[c7Z,.row 44 6 n (λi=>eV (Bl n f i)),.cells [iV a,.ref 3,.ref 4,iV tt,nV kk,.ref 5,.jref 7],.row 44 6 n (λi=>eV (g i)),.row 40 5 n (λi=>evV (x i)),.row 3 1 n (λi=>iV (r i)),jgZ,.jag (Jag.mk 25 1 kk (λ_=>.nilS) 0 3 1 (λ_=>true) ln (λi k=>iV (co i k)))]⟩) = true):(((AG tab ⟨(onC 55 q55 (.tup [],.all ⟨TP n b u,[c7Z,.row 44 6 n (λi=>eV (Bl n f i)),.cells [iV a,.ref 3,.ref 4,iV tt,nV kk,.ref 5,.jref 7],.row 44 6 n (λi=>eV (g i)),.row 40 5 n (λi=>evV (x' i)),.row 3 1 n (λi=>iV (r' i)),jgZ,.jag (Jag.mk 25 1 kk (λ_=>.nilS) 0 3 1 (λ_=>true) ln' (λi k=>iV (co' i k)))] ++ [.dead]⟩) (Dt)),L,Gl⟩ (A1 Try.f14 6) 6 (Lg a n f b kk tt g x r ln co j)).bind λr=>T.leaf (IH (JQ a n f) r))).sem = some (.nm,⟨(jsV 164 0 (λ_=>.und) [(4,(.ptr 0 0)),(11,(nV n)),(14,(.ptr 2 0)),(145,(nV n)),(146,(iV (wr .i64 (Ae (ofNat b) 1))))]),[c7Z,.row 44 6 n (λi=>eV (Bl n f i)),.cells [iV a,.ref 3,.ref 4,iV tt,nV kk,.ref 5,.jref 7],.row 44 6 n (λi=>eV (g i)),.row 40 5 n (λi=>evV (x' i)),.row 3 1 n (λi=>iV (r' i)),jgZ,.jag (Jag.mk 25 1 kk (λ_=>.nilS) 0 3 1 (λ_=>true) ln' (λi k=>iV (co' i k)))]⟩):=Aa (bbK 6 61) [ilt (ofNat b) (ofNat n),ieq (ofNat n) 0,Af (ile 0 (Ab (wr .i64 (Au (wr .i64 (Ae (ofNat b) (ofNat n))) 1)) (ofNat n))) (ilt (Ab (wr .i64 (Au (wr .i64 (Ae (ofNat b) (ofNat n))) 1)) (ofNat n)) (ofNat n)),nlt (toN (Ab (wr .i64 (Au (wr .i64 (Ae (ofNat b) (ofNat n))) 1)) (ofNat n))) n,Ar (g (toN (Ab (wr .i64 (Au (wr .i64 (Ae (ofNat b) (ofNat n))) 1)) (ofNat n)))),q55 [.ptr 2 0,nV b] ⟨(jsV 164 0 j [(4,(.ptr 0 0)),(11,(nV n)),(14,(.ptr 2 0)),(20,(nV b)),(145,(nV n)),(146,(nV b)),(147,(bV (ilt (ofNat b) (ofNat n)))),(148,(nV b)),(149,(.ptr 2 1)),(150,(.ref 3)),(151,(nV b)),(152,(nV n)),(153,(iV (wr .i64 (Ae (ofNat b) (ofNat n))))),(154,(iV (wr .i64 (Au (wr .i64 (Ae (ofNat b) (ofNat n))) 1)))),(155,(nV n)),(156,(iV (Ab (wr .i64 (Au (wr .i64 (Ae (ofNat b) (ofNat n))) 1)) (ofNat n)))),(157,(.ept 3 6 (toN (Ab (wr .i64 (Au (wr .i64 (Ae (ofNat b) (ofNat n))) 1)) (ofNat n))) 0)),(158,(eV (g (toN (Ab (wr .i64 (Au (wr .i64 (Ae (ofNat b) (ofNat n))) 1)) (ofNat n)))))),(159,(bV (Ar (g (toN (Ab (wr .i64 (Au (wr .i64 (Ae (ofNat b) (ofNat n))) 1)) (ofNat n))))))),(160,(nV b))]),[c7Z,.row 44 6 n (λi=>eV (Bl n f i)),.cells [iV a,.ref 3,.ref 4,iV tt,nV kk,.ref 5,.jref 7],.row 44 6 n (λi=>eV (g i)),.row 40 5 n (λi=>evV (x i)),.row 3 1 n (λi=>iV (r i)),jgZ,.jag (Jag.mk 25 1 kk (λ_=>.nilS) 0 3 1 (λ_=>true) ln (λi k=>iV (co i k)))]⟩] (by kernel_rfl) (by simp only [hq55] <;> simp only [h14] <;> simp only [*] <;> rfl)
def MR (a:Int) (n:Nat) (f:Nat->E6) (q:Nat) (g:Nat->E6):St:=⟨(jsV 164 0 (λ_=>.und) [(0,(iV a)),(4,(.ptr 0 0)),(5,(iV 0)),(6,(iV 0)),(11,(nV n)),(14,(.ptr 2 0)),(16,(.ref 7)),(17,(.ref 8)),(18,(.ref 9)),(73,(.ptr 2 1)),(74,(.ref 3)),(75,(.ref 7)),(76,(.ptr 2 1)),(77,(.ref 3)),(78,(.ref 8)),(79,(.ref 9)),(80,(nV n)),(81,(iV 0))]),[c7Z,.row 44 6 n (λi=>eV (Bl n f i)),.cells [iV a,.ref 3,.ref 4,iV 0,iV 0,.ref 5,.jref 6],.row 44 6 n (λi=>eV (g i)),.row 40 5 0 (λ_=>.und),r3Z,jgZ,.row 3 1 n (λk=>iV (Av (λk=>As (g k)) n k)),.row 3 1 n (λk=>iV (Av (λk=>Ar (g k)) n k)),.imap 76 0 (λ_=>0)]⟩
def MQ (a:Int) (n:Nat) (f:Nat->E6) (q m kk:Nat) (tt:Int) (g:Nat->E6) (th lo r:Nat->Int) (x:Nat->Ev5) (pl:Int->Int):St:=⟨(jsV 164 0 (λ_=>.und) [(4,(.ptr 0 0)),(5,(iV 0)),(6,(iV 0)),(11,(nV n)),(14,(.ptr 2 0)),(141,(.ptr 2 4)),(142,(nV kk)),(143,(.jref 7)),(144,(.ptr 2 6)),(145,(nV n)),(146,(iV 0))]),[c7Z,.row 44 6 n (λi=>eV (Bl n f i)),.cells [iV a,.ref 3,.ref 4,iV tt,nV kk,.ref 5,.jref 7],.row 44 6 n (λi=>eV (g i)),.row 40 5 n (λi=>evV (x i)),.row 3 1 n (λi=>iV (r i)),jgZ,.jag (Jag.mk 25 1 kk (λ_=>.nilS) 0 3 1 (λ_=>true) (λ_=>0) (λ_ _=>.und))]⟩
noncomputable abbrev Iv (L:LT) (p0:PT) (p2:PT) (p4:PT) (p6:PT) (a:Int) (n:Nat) (f:Nat->E6) (q:Nat) (m:Nat) (kk:Nat) (tt:Int) (g:Nat->E6) (th:Nat->Int) (lo:Nat->Int) (r:Nat->Int) (x:Nat->Ev5) (pl:Int->Int) (x':Nat->Ev5) (r':Nat->Int) (ln':Nat->Nat) (co':Nat->Nat->Int):LT:=onP 0 p0 (ZG a n f q) (onP 2 p2 (Rj a n f q n (λi=>eV (g i))) (onP 4 p4 (Ri a n f n m tt (ofNat kk) g th lo r (λi=>evV (x i)) pl) (onP 6 p6 (Rh a n f n kk tt g x' r' ln' co') L)))
theorem AjT (L:LT) (p0:PT) (p2:PT) (p4:PT) (p6:PT) (a:Int) (n:Nat) (f:Nat->E6) (q m kk:Nat) (tt:Int) (g:Nat->E6) (th lo r:Nat->Int) (x:Nat->Ev5) (pl:Int->Int) (x':Nat->Ev5) (r':Nat->Int) (ln':Nat->Nat) (co':Nat->Nat->Int) (h0:AN n = true) (h1:ieq (BS a n f) 0 = true) (h2:BN n f = true) (h3:Af (ilt 0 (ofNat n)) (Af (CV n) (BK 8 (ofNat n) (ofNat n))) = true) (h15:Bm [.row 3 1 n (λ_=>iV 0)] = true) (h4:BK 24 (ofNat kk) (ofNat kk) = true) (hp0:p0 (OA (Iv L p0 p2 p4 p6 a n f q m kk tt g th lo r x pl x' r' ln' co')) (Yb a n f 0 (Ajb a n f )) = true) (hp2:p2 (IN (Iv L p0 p2 p4 p6 a n f q m kk tt g th lo r x pl x' r' ln' co')) (JK a n f q 0 (λ_=>.und) (Zo a n f q)) = true) (hp4:p4 (IM (Iv L p0 p2 p4 p6 a n f q m kk tt g th lo r x pl x' r' ln' co')) (MR a n f q g) = true) (hp6:p6 (Ho (Iv L p0 p2 p4 p6 a n f q m kk tt g th lo r x pl x' r' ln' co')) (MQ a n f q m kk tt g th lo r x pl) = true):(A2 (An tab ⟨Dt,onP 0 p0 (ZG a n f q) (onP 2 p2 (Rj a n f q n (λi=>eV (g i))) (onP 4 p4 (Ri a n f n m tt (ofNat kk) g th lo r (λi=>evV (x i)) pl) (onP 6 p6 (Rh a n f n kk tt g x' r' ln' co') L))),Gl⟩ Try.f14 [iV a,.sl 6 n λi=>eV (f i)] [])).sem = some ((.tup [.agg [iV a,.ref 0,.ref 1,iV tt,nV kk,.ref 2,.jref 3],iV 0,iV 0]),[.row 44 6 n (λi=>eV (g i)),.row 40 5 n (λi=>evV (x' i)),.row 3 1 n (λi=>iV (r' i)),.jag (Jag.mk 25 1 kk (λ_=>.nilS) 0 3 1 (λ_=>true) ln' (λi k=>iV (co' i k)))]):=Aa (bbK 19 524283) ((λc0 c1 c2 c3 c4=>[c0,c1,Ah (ieq (BS a n f) 0),c0,c1,BN n f,p0 (OA (Iv L p0 p2 p4 p6 a n f q m kk tt g th lo r x pl x' r' ln' co')) (Yb a n f 0 (Ajb a n f )),p2 (IN (Iv L p0 p2 p4 p6 a n f q m kk tt g th lo r x pl x' r' ln' co')) (JK a n f q 0 (λ_=>.und) (Zo a n f q)),c2,c0,c3,c4,c2,c0,c3,c4,p4 (IM (Iv L p0 p2 p4 p6 a n f q m kk tt g th lo r x pl x' r' ln' co')) (MR a n f q g),BK 24 (ofNat kk) (ofNat kk),p6 (Ho (Iv L p0 p2 p4 p6 a n f q m kk tt g th lo r x pl x' r' ln' co')) (MQ a n f q m kk tt g th lo r x pl)]) (Ay n (λ_=>true)) (AN n) (true) (Af (ilt 0 (ofNat n)) (Af (CV n) (BK 8 (ofNat n) (ofNat n)))) (Bm [.row 3 1 n (λ_=>iV 0)])) (by kernel_rfl) (by simp only [hp0,hp2,hp4,hp6] <;> simp only [h3] <;> simp only [*,Ax,Cg] <;> rfl)
def Ab1:LT:=λ_ _ _=>.fail
theorem V4 (L:LT):LLe Ab1 L:=λ_ _ _ _ _ _ h=>by cases h
def zE:E6:=⟨0,false,false,0,0,0⟩
def Ag2 (n:Nat) (G:Nat->E6) (i:Nat):E6:=bif decide (i < n) then G i else zE
def shQ (n:Nat) (f:Nat->E6):Nat:=(E4 (λi=>As (Bl n f i)) n+1) % n
def shG (n:Nat) (f:Nat->E6):Nat->E6:=Ag2 n λi=>Bl n f ((shQ n f+i) % n)
theorem Ac8 (L:LT) (a:Int) (n:Nat) (f:Nat->E6) (hn:n <= 4611686018427387903) (k:Nat) (hk:k < n) (ht:As (Bl n f k) = true) (hb:∀ i,i < k->As (Bl n f i) = false):∀ (e b:Nat) (j:Nat->V) (q:Nat),k = b+e->e < q ->
  (A8 (OA L) (YW a n f) q (Yb a n f b j)).sem = some (ZG a n f ((k+1) % n))
 | 0,b,j,q+1,h,_=>by
  have:k = b:=by omega
  subst this
  rw [Ad (Ail L a n f k j (ofNat_lt hk) (AK k) (decide_eq_true hk) ht (FP (by omega))),QQ,Ao hk (by omega),C9]
  rfl
 | e+1,b,j,q+1,h,h2=>by
  have hl:b < n:=by omega
  rw [Ad (Aim L a n f b j (ofNat_lt hl) (AK b) (decide_eq_true hl) (hb b (by omega))),Aw,Ao hl (by omega)]
  exact Ac8 L a n f hn k hk ht hb e (b+1) (λ_=>.und) q (by omega) (by omega)
def upE (b:Nat) (G:Nat->E6) (i:Nat):E6:=bif decide (i < b) then G i else zE
theorem X9 (b:Nat) (G:Nat->E6):AB b (λi=>eV (upE b G i)) (eV (G b)) = λi=>eV (upE (b+1) G i):=by
 funext k
 rw [BF,show Nat.beq k b = decide (k = b) by rw [Bool.eq_iff_iff]; simp]
 unfold upE
 by_cases h:k = b
 ·subst h; simp
 ·by_cases h2:k < b
  ·have:k < b+1:=by omega
   simp [h,h2,this]
  ·have:¬ k < b+1:=by omega
   simp [h,h2,this]
theorem Y3 (L:LT) (a:Int) (n:Nat) (f:Nat->E6) (hn:n <= 16) (z:Nat) (hz:z < n):∀ (e b:Nat) (j:Nat->V) (q:Nat),n = b+e->e < q ->
  (A8 (IN L) (NR a n f) q (JK a n f z b (λi=>eV (upE b (λi=>Bl n f ((z+i) % n)) i)) j)).sem = some (Rj a n f z n (λi=>eV (upE n (λi=>Bl n f ((z+i) % n)) i)))
 | 0,b,j,q+1,h,_=>by
  have:n = b:=by omega
  subst this
  exact Ad (Aii L a n f z n _ j (AF (Nat.le_refl _)))
 | e+1,b,j,q+1,h,h2=>by
  have hl:b < n:=by omega
  have hI:Ab (wr .i64 (Ae (ofNat z) (ofNat b))) (ofNat n) = ofNat ((z+b) % n):=by rw [DI (by omega),C9]
  have hlt:(z+b) % n < n:=Nat.mod_lt _ (by omega)
  rw [Ad (Aih L a n f z b _ j (ofNat_lt hl) (FP (by omega)) (by rw [hI]; exact Ap hlt) (by rw [hI]; exact decide_eq_true hlt) (Cc (by omega))),Aw,hI,Ao hl (by omega),show toN (ofNat ((z+b) % n)) = (z+b) % n from rfl,
   show Bl n f ((z+b) % n) = (λi=>Bl n f ((z+i) % n)) b from rfl,X9]
  exact Y3 L a n f hn z hz e (b+1) (λ_=>.und) q (by omega) (by omega)
def upX (n:Nat) (g:Nat->E6) (b i:Nat):Ev5:=bif decide (i < b) then evF n g (λ_=>false) i else ⟨0,0,0,0,0⟩
theorem RA (n:Nat) (g:Nat->E6) (b:Nat):AB b (λi=>evV (upX n g b i)) (evV (evF n g (λ_=>false) b)) = λi=>evV (upX n g (b+1) i):=by
 funext k
 rw [BF,show Nat.beq k b = decide (k = b) by rw [Bool.eq_iff_iff]; simp]
 unfold upX
 by_cases h:k = b
 ·subst h; simp
 ·by_cases h2:k < b
  ·have:k < b+1:=by omega
   simp [h,h2,this]
  ·have:¬ k < b+1:=by omega
   simp [h,h2,this]
theorem E2 (b:Nat) (v:V):AB b (λ_=>v) v = λ_=>v:=by
 funext k
 rw [BF]
 cases Nat.beq k b <;> rfl
def plM (n:Nat) (g:Nat->E6) (b:Nat) (x:Int):Int:=ofNat (Ak (λk=>ieq x (thF n g k)) b)
theorem Agd (n:Nat) (g:Nat->E6) {b:Nat} (hb:b < n) (hn:n <= 16):(λi=>sel (ieq i (thF n g b)) (wr .i64 (Ae (plM n g b (thF n g b)) 1)) (plM n g b i)) = plM n g (b+1):=by
 funext i
 have hc:=Bd (λk=>ieq (thF n g b) (thF n g k)) b
 unfold plM
 rw [Ao (n:=n) (by omega) (by omega)]
 cases h:ieq i (thF n g b) with
 | true =>
  have:=CZ h
  subst this
  rw [Bk h]
  rfl
 | false =>
  rw [B0 h]
  rfl
theorem AcG {p:Nat->Bool} {n b:Nat} (hb:b < n) (hn:n <= 16):sel (ilt (ofNat (rN p n b)) (wr .i64 (Ae (Av p n b) 1))) (wr .i64 (Ae (Av p n b) 1)) (ofNat (rN p n b)) = ofNat (rN p n (b+1)):=by
 have h1:=Ku p n b hb
 have h2:=Sc p n b
 rw [Fz hb,Ao (n:=n) (by omega) (by omega),CN,rN]
 by_cases h:Ba p n b < rN p n b
 ·rw [if_pos h,decide_eq_false (by omega)]; rfl
 ·rw [if_neg h,decide_eq_true (by omega)]
  show ofNat (Ba p n b+1) = _
  rw [show Ba p n b = rN p n b by omega]
theorem Y2 (L:LT) (a:Int) (n:Nat) (f:Nat->E6) (hn:n <= 16) (g:Nat->E6):∀ (e b:Nat) (j:Nat->V) (q:Nat),n = b+e->e < q ->
  (A8 (IM L) (NQ a n f) q (Ql a n f b b (ofNat (rN (obF g) n b)) (ofNat (rN (mbF g) n b)) g (thF n g) (loF n g) (λ_=>-1) (λi=>evV (upX n g b i)) (plM n g b) j)).sem = some (Ri a n f n n (ofNat (rN (obF g) n n)) (ofNat (rN (mbF g) n n)) g (thF n g) (loF n g) (λ_=>-1) (λi=>evV (upX n g n i)) (plM n g n))
 | 0,b,j,q+1,h,_=>by
  have:n = b:=by omega
  subst this
  exact Ad (Aig L a n f n n _ _ g _ _ _ _ _ j (AF (Nat.le_refl _)))
 | e+1,b,j,q+1,h,h2=>by
  have hl:b < n:=by omega
  have hth:thF n g b = ofNat (Ba (obF g) n b):=Fz hl
  have hpn:=N5 (p:=obF g) (n:=n) (k:=b) (by omega)
  have hcn:=Bd (obF g) n
  have hc:=Bd (λk=>ieq (thF n g b) (thF n g k)) b
  have fit:∀ k:Nat,k <= 100->Dr (ofNat k) = true:=λk hk=>by
   unfold Dr
   rw [decide_eq_true (by simp only [Int.ofNat_eq_natCast]; omega),decide_eq_true (by simp only [Int.ofNat_eq_natCast]; omega)]
   rfl
  rw [Ad (Aif L a n f b b _ _ g _ _ _ _ _ j (ofNat_lt hl) (AK b) (decide_eq_true hl) (by rw [hth]; exact fit _ (by omega)) (Cc (by omega)) (decide_eq_true (by omega)) (by unfold plM; rw [Ao (n:=n) (by omega) (by omega)]; exact fit _ (by omega)) (Cc (by omega))),Aw,Ao hl (by omega)]
  have hx:=RA n g b
  rw [show evV (evF n g (λ_=>false) b) = .agg [iV (thF n g b),iV (plM n g b (thF n g b)),iV (g b).src,iV (loF n g b),iV 0] by rw [BU hl]; rfl] at hx
  rw [hx,E2,Agd n g hl hn]
  have m1:=AcG (p:=obF g) hl hn
  have m2:=AcG (p:=mbF g) hl hn
  have m1:sel (ilt (ofNat (rN (obF g) n b)) (wr .i64 (Ae (thF n g b) 1))) (wr .i64 (Ae (thF n g b) 1)) (ofNat (rN (obF g) n b)) = ofNat (rN (obF g) n (b+1)):=m1
  have m2:sel (ilt (ofNat (rN (mbF g) n b)) (wr .i64 (Ae (loF n g b) 1))) (wr .i64 (Ae (loF n g b) 1)) (ofNat (rN (mbF g) n b)) = ofNat (rN (mbF g) n (b+1)):=m2
  rw [m1,m2]
  exact Y2 L a n f hn g e (b+1) (λ_=>.und) q (by omega) (by omega)
def slW (w4 w11 w14 w145 w146:V) (u:Nat->V):List V:=(jsV 164 0 u [(4,w4),(11,w11),(14,w14),(145,w145),(146,w146)])
def OM (n b:Nat) (g:Nat->E6) (j:Nat->V):List V:=(jsV 164 0 j [(4,(.ptr 0 0)),(11,(nV n)),(14,(.ptr 2 0)),(20,(nV b)),(145,(nV n)),(146,(nV b)),(147,(bV (ilt (ofNat b) (ofNat n)))),(148,(nV b)),(149,(.ptr 2 1)),(150,(.ref 3)),(151,(nV b)),(152,(nV n)),(153,(iV (wr .i64 (Ae (ofNat b) (ofNat n))))),(154,(iV (wr .i64 (Au (wr .i64 (Ae (ofNat b) (ofNat n))) 1)))),(155,(nV n)),(156,(iV (Ab (wr .i64 (Au (wr .i64 (Ae (ofNat b) (ofNat n))) 1)) (ofNat n)))),(157,(.ept 3 6 (toN (Ab (wr .i64 (Au (wr .i64 (Ae (ofNat b) (ofNat n))) 1)) (ofNat n))) 0)),(158,(eV (g (toN (Ab (wr .i64 (Au (wr .i64 (Ae (ofNat b) (ofNat n))) 1)) (ofNat n)))))),(159,(bV (Ar (g (toN (Ab (wr .i64 (Au (wr .i64 (Ae (ofNat b) (ofNat n))) 1)) (ofNat n))))))),(160,(nV b))])
theorem Aay (n b:Nat) (g:Nat->E6) (j:Nat->V):(jsV 164 0 j [(4,(.ptr 0 0)),(11,(nV n)),(14,(.ptr 2 0)),(20,(nV b)),(145,(nV n)),(146,(nV b)),(147,(bV (ilt (ofNat b) (ofNat n)))),(148,(nV b)),(149,(.ptr 2 1)),(150,(.ref 3)),(151,(nV b)),(152,(nV n)),(153,(iV (wr .i64 (Ae (ofNat b) (ofNat n))))),(154,(iV (wr .i64 (Au (wr .i64 (Ae (ofNat b) (ofNat n))) 1)))),(155,(nV n)),(156,(iV (Ab (wr .i64 (Au (wr .i64 (Ae (ofNat b) (ofNat n))) 1)) (ofNat n)))),(157,(.ept 3 6 (toN (Ab (wr .i64 (Au (wr .i64 (Ae (ofNat b) (ofNat n))) 1)) (ofNat n))) 0)),(158,(eV (g (toN (Ab (wr .i64 (Au (wr .i64 (Ae (ofNat b) (ofNat n))) 1)) (ofNat n)))))),(159,(bV (Ar (g (toN (Ab (wr .i64 (Au (wr .i64 (Ae (ofNat b) (ofNat n))) 1)) (ofNat n))))))),(160,(nV b))]) = OM n b g j:=rfl
theorem XD (n b:Nat) (g:Nat->E6) (j:Nat->V) (F:V->V):(OM n b g j).map F = slW (F (.ptr 0 0)) (F (nV n)) (F (.ptr 2 0)) (F (nV n)) (F (nV b)) (λi=>F (nth (OM n b g j) i)):=by kernel_rfl
def hpD (a:Int) (n:Nat) (f:Nat->E6) (g:Nat->E6) (tt:Int) (b:Nat):List Blk:=[c7Z,.row 44 6 n (λi=>eV (Bl n f i)),.cells [iV a,.ref 3,.ref 4,iV tt,iV (ofNat (kkN n g)),.ref 5,.jref 7],.row 44 6 n (λi=>eV (g i)),.row 40 5 n (λi=>evV (evF n g (dnF n g (By (mbF g) n) b 0) i)),.row 3 1 n (λi=>iV (rfF n g (dnF n g (By (mbF g) n) b 0) i)),jgZ,.jag (Jag.mk 25 1 (kkN n g) (λ_=>.nilS) 0 3 1 (λ_=>true) (lnP n g b 0) (λi k=>iV (coP n g b 0 i k)))]
theorem Xu (vs:List V) (st:St):Dt 55 vs st = KB tab (AT Gl TI JD) Try.f55 vs st:=by kernel_rfl
theorem SI {τ:List Ty} {Γ:Cx} {fn:Func} {vs:List V} {st:St} {p:V × List Blk} {t:List V} (h:(An τ Γ fn vs (st.h ++ [.saved st.t])).sem = some p) (hp:p.2[st.h.length]? = some (.saved t)) :
  (KB τ Γ fn vs st).sem = some (p.1,.all ⟨t,p.2.set st.h.length .dead⟩):=by
 unfold KB
 rw [Dj,h]
 show (match p.2[st.h.length]? with | some (.saved t)=>T.leaf (p.1,Res.all ⟨t,p.2.set st.h.length .dead⟩) | _=>.fail).sem = _
 rw [hp]
 rfl
theorem Ag7 (a:Int) (n:Nat) (f:Nat->E6) (hn:n <= 16) (b:Nat) (g:Nat->E6) (tt:Int) (ts:List V) (hb:b < n) (hst:CM (mbF g) n b = true):∃ F,GJ F ∧
  (Dt 55 [.ptr 2 0,nV b] ⟨ts,(hpD a n f g tt b)⟩).sem = some (.tup [],.all ⟨ts.map F,(hpD a n f g tt (b+1)) ++ [Blk.dead]⟩):=by
 obtain ⟨l1,l2,l3,l4⟩:=ER hb hst
 have hL:=AL JD
 have h1:∃ F,GJ F ∧ (A8 (IK (AZ JD)) (Kz a n (kkN n g) b (λi=>Bl n f i) g tt (λ_=>.nilS) (evF n g (dnF n g (By (mbF g) n) b 0)) (rfF n g (dnF n g (By (mbF g) n) b 0)) (lnP n g b 0) (coP n g b 0) ts) 17 (RN a n (kkN n g) b (λi=>Bl n f i) g tt (λ_=>.nilS) (evF n g (dnF n g (By (mbF g) n) b 0)) (rfF n g (dnF n g (By (mbF g) n) b 0)) (lnP n g b 0) (coP n g b 0) ts 0 (loF n g b) (-1) 0 (evF n g (dnF n g (By (mbF g) n) b 0)) (rfF n g (dnF n g (By (mbF g) n) b 0)) (lnP n g b 0) (coP n g b 0) (Agn a n (kkN n g) b (λi=>Bl n f i) g tt (λ_=>.nilS) (evF n g (dnF n g (By (mbF g) n) b 0)) (rfF n g (dnF n g (By (mbF g) n) b 0)) (lnP n g b 0) (coP n g b 0) ts))).sem = _ :=
  AhH (AZ JD) a n b (λi=>Bl n f i) g tt (λ_=>.nilS) (evF n g (dnF n g (By (mbF g) n) b 0)) (rfF n g (dnF n g (By (mbF g) n) b 0)) (lnP n g b 0) (coP n g b 0) ts hb hst (by omega) (Cp (mbF g) n b - 1) 0 ts _ 17 (by omega) (by omega)
 obtain ⟨F,hF,h1⟩:=h1
 refine ⟨F,hF,?_⟩
 have hin:Af (ile 0 (ofNat b)) (ilt (ofNat b) (ofNat n)) = true:=Ap hb
 have hlc:(evF n g (dnF n g (By (mbF g) n) b 0) b).loc = loF n g b:=by rw [BU hb]
 have hw:=Aj2 (AZ JD) (isP (AZ JD) 0 (Tj a n (kkN n g) b (λi=>Bl n f i) g tt (λ_=>.nilS) (evF n g (dnF n g (By (mbF g) n) b 0)) (rfF n g (dnF n g (By (mbF g) n) b 0)) (lnP n g b 0) (coP n g b 0) (ts.map F) 0 0 0 0 (evF n g (dnF n g (By (mbF g) n) (b+1) 0)) (rfF n g (dnF n g (By (mbF g) n) (b+1) 0)) (lnP n g (b+1) 0) (coP n g (b+1) 0))) a n (kkN n g) b (λi=>Bl n f i) g tt (λ_=>.nilS) (evF n g (dnF n g (By (mbF g) n) b 0)) (rfF n g (dnF n g (By (mbF g) n) b 0)) (lnP n g b 0) (coP n g b 0) ts (ts.map F) 0 0 0 0 (evF n g (dnF n g (By (mbF g) n) (b+1) 0)) (rfF n g (dnF n g (By (mbF g) n) (b+1) 0)) (lnP n g (b+1) 0) (coP n g (b+1) 0) hin (decide_eq_true hb)
 rw [hlc] at hw
 have hw:=hw (Am h1)
 have e:=LC (τ:=tab) (G:=Gl) (fn:=Try.f55) (CLe.refl (Aq TI)) (Az (k:=0) hL hL) _ hw
 rw [Xu]
 exact SI (st:=⟨ts,(hpD a n f g tt b)⟩) (Γ:=AT Gl TI JD) e rfl
theorem Y1 (L:LT) (a:Int) (n:Nat) (f:Nat->E6) (hn:n <= 16) (g:Nat->E6) (tt:Int) (hk:∃ k,k < n ∧ mbF g k = true):∀ (e b:Nat) (j:Nat->V) (q:Nat),n = b+e->e < q ->
  (A8 (Ho L) (JQ a n f) q (Lg a n f b (kkN n g) tt g (evF n g (dnF n g (By (mbF g) n) b 0)) (rfF n g (dnF n g (By (mbF g) n) b 0)) (lnP n g b 0) (coP n g b 0) j)).sem = some (Rh a n f n (kkN n g) tt g (evF n g (dnF n g (By (mbF g) n) n 0)) (rfF n g (dnF n g (By (mbF g) n) n 0)) (lnP n g n 0) (coP n g n 0))
 | 0,b,j,q+1,h,_=>by
  have:n = b:=by omega
  subst this
  rw [show Ho L = AG tab ⟨Dt,L,Gl⟩ (A1 Try.f14 6) 6 from rfl]
  exact Ad (AhV L a n f n _ _ g _ _ _ _ j (AF (Nat.le_refl _)))
 | e+1,b,j,q+1,h,h2=>by
  have hl:b < n:=by omega
  have hx:=J4 (a:=b) (n:=n) (by omega) (by omega)
  have hlt:(b+(n - 1)) % n < n:=Nat.mod_lt _ (by omega)
  have hin:Af (ile 0 (Ab (wr .i64 (Au (wr .i64 (Ae (ofNat b) (ofNat n))) 1)) (ofNat n))) (ilt (Ab (wr .i64 (Au (wr .i64 (Ae (ofNat b) (ofNat n))) 1)) (ofNat n)) (ofNat n)) = true:=by rw [hx]; exact Ap hlt
  have hnl:nlt (toN (Ab (wr .i64 (Au (wr .i64 (Ae (ofNat b) (ofNat n))) 1)) (ofNat n))) n = true:=by rw [hx]; exact decide_eq_true hlt
  have next:=λj=>Y1 L a n f hn g tt hk e (b+1) j q (by omega) (by omega)
  cases hst:CM (mbF g) n b with
  | false =>
   have hm:Ar (g (toN (Ab (wr .i64 (Au (wr .i64 (Ae (ofNat b) (ofNat n))) 1)) (ofNat n)))) = false:=by rw [hx]; exact hst
   rw [show Ho L = AG tab ⟨Dt,L,Gl⟩ (A1 Try.f14 6) 6 from rfl,Ad (AhU L a n f b (kkN n g) tt g (evF n g (dnF n g (By (mbF g) n) b 0)) (rfF n g (dnF n g (By (mbF g) n) b 0)) (lnP n g b 0) (coP n g b 0) j (ofNat_lt hl) (FP (by omega)) hin hnl hm),Aw,Ao hl (by omega)]
   have hd:dnF n g (By (mbF g) n) b 0 = dnF n g (By (mbF g) n) (b+1) 0:=by
    funext i
    unfold dnF
    by_cases hi:i < n
    ·rw [Xg hi hk hst]
    ·rw [decide_eq_false hi]; rfl
   rw [hd,S5 hst,ZW (S5 hst)]
   exact next (λ_=>.und)
  | true =>
   have hm:Ar (g (toN (Ab (wr .i64 (Au (wr .i64 (Ae (ofNat b) (ofNat n))) 1)) (ofNat n)))) = true:=by rw [hx]; exact hst
   obtain ⟨F,hF,hc⟩:=Ag7 a n f hn b g tt (OM n b g j) hl hst
   have hts:(OM n b g j).map F = TP n b (λi=>F (nth (OM n b g j) i)):=by
    have:(OM n b g j).map F = slW (F (.ptr 0 0)) (F (nV n)) (F (.ptr 2 0)) (F (nV n)) (F (nV b)) (λi=>F (nth (OM n b g j) i)):=XD n b g j F
    rw [this,hF.2 0 0 (by omega),hF.2 2 0 (by omega)]
    unfold nV iV
    rw [hF.1,hF.1]
    rfl
   rw [hts] at hc
   have hr:=λq55=>AhT Ab1 a n f b (kkN n g) tt g (evF n g (dnF n g (By (mbF g) n) b 0)) (rfF n g (dnF n g (By (mbF g) n) b 0)) (lnP n g b 0) (coP n g b 0) (λi=>F (nth (OM n b g j) i)) (evF n g (dnF n g (By (mbF g) n) (b+1) 0)) (rfF n g (dnF n g (By (mbF g) n) (b+1) 0)) (lnP n g (b+1) 0) (coP n g (b+1) 0) q55 j (ofNat_lt hl) (FP (by omega)) hin hnl hm
   rw [Aay] at hr
   have hr:=hr (isC Dt 55 (.tup [],.all ⟨TP n b (λi=>F (nth (OM n b g j) i)),(hpD a n f g tt (b+1)) ++ [Blk.dead]⟩)) (SH hc)
   have hr':=Dy (f':=Ho L) (l:=JQ a n f) (LD (τ:=tab) (G:=Gl) (YM (CLe.refl Dt)) (V4 L) (A1 Try.f14 6) 6 (Lg a n f b (kkN n g) tt g (evF n g (dnF n g (By (mbF g) n) b 0)) (rfF n g (dnF n g (By (mbF g) n) b 0)) (lnP n g b 0) (coP n g b 0) j)) hr
   rw [Ad hr',Aw,Ao hl (by omega)]
   exact next (λ_=>.und)
def ttN (n:Nat) (g:Nat->E6):Nat:=Ak (obF g) n
def Qn (a:Int) (n:Nat) (g:Nat->E6):V:=.agg [iV a,.ref 0,.ref 1,iV (ofNat (ttN n g)),iV (ofNat (kkN n g)),.ref 2,.jref 3]
def Qo (n:Nat) (g:Nat->E6):List Blk:=[.row 44 6 n (λi=>eV (g i)),.row 40 5 n (λi=>evV (evF n g (λ_=>true) i)),.row 3 1 n (λi=>iV (rfF n g (λ_=>true) i)),
 .jag ⟨25,1,kkN n g,λ_=>.und,0,3,1,λ_=>true,lnN (mbF g) (wrF g) n,λk i=>iV (ofNat (coN (mbF g) (wrF g) n k i))⟩]
def noV:V:=.agg [iV 0,.ref 0,.ref 1,iV 0,iV 0,.ref 2,.jref 3]
def noH:List Blk:=[.row 44 6 0 (λ_=>.und),.row 40 5 0 (λ_=>.und),.row 3 1 0 (λ_=>.und),.jag ⟨25,1,0,λ_=>.und,0,3,1,λ_=>true,λ_=>0,λ_ _=>.und⟩]
def ofT:List V->T (V × List Blk)
 | [.val (.int .i64 a),v]=>apL v λn f=>.br (AN n) (.br (ieq (BS a n f) 0) (.leaf (.tup [Qn a n (shG n f),iV 0,iV 0],Qo n (shG n f))) (.leaf (.tup [noV,iV (BS a n f),iV (LL a n f)],noH))) .fail
 | _=>.fail
theorem IZ {n i:Nat} {f:Nat->E6} (h:i < n):shG n f i = Bl n f ((shQ n f+i) % n):=by
 unfold shG Ag2
 rw [decide_eq_true h]
 rfl
theorem OU {a:Int} {n:Nat} {f g:Nat->E6} (h:IsCycle a n f) (he:∀ i,i < n->g i = f i):IsCycle a n g:=by
 have c1:∀ (p:E6->Bool) k,k <= n->Ak (λi=>p (g i)) k = Ak (λi=>p (f i)) k:=λp k hk=>EB λi hi=>by rw [he i (by omega)]
 have c2:∀ (p:E6->Bool) i,i < n->Av (λk=>p (g k)) n i = Av (λk=>p (f k)) n i:=λp i hi=>by
  rw [Fz hi,Fz hi]
  unfold Ba
  rw [c1 p i (by omega),c1 p n (Nat.le_refl _)]
 have hlo:=h.lo
 refine ⟨h.arch,h.lo,h.hi,λi hi=>?_,λi hi=>?_,?_,?_,λi hi=>?_,λi hi=>?_⟩
 ·have:=h.legal i hi
  unfold C6 at this ⊢
  rw [he i hi]
  exact this
 ·have:=h.meets i hi
  unfold Fq at this ⊢
  rw [he i hi,he _ (Nat.mod_lt _ (by omega))]
  exact this
 ·rw [c1 As n (Nat.le_refl _)]; exact h.outer
 ·rw [c1 Ar n (Nat.le_refl _)]; exact h.moves
 ·have:=h.writes i hi
  unfold AH Eo at this ⊢
  have e:(λi=>isW (g i)) i = (λi=>isW (f i)) i:=by show isW (g i) = isW (f i); rw [he i hi]
  rw [e,c2 Ar i hi,EB (q:=Cq (Av (λk=>Ar (f k)) n) (λi=>isW (f i)) (Av (λk=>Ar (f k)) n i)) λk hk=>by
   unfold Cq
   rw [c2 Ar k hk]
   show Af _ (isW (g k)) = Af _ (isW (f k))
   rw [he k hk]]
  exact this
 ·have:=h.crowd i hi
  unfold AH Eo at this ⊢
  rw [c2 As i hi,EB (q:=Cq (Av (λk=>As (f k)) n) (λ_=>true) (Av (λk=>As (f k)) n i)) λk hk=>by
   unfold Cq
   rw [c2 As k hk]]
  exact this
theorem Jz {p:Nat->Bool}:∀ {n:Nat},0 < Ak p n->∃ k,k < n ∧ p k = true
 | 0,h=>by simp [Ak] at h
 | n+1,h=>by
  cases hp:p n with
  | true=>exact ⟨n,Nat.lt_succ_self n,hp⟩
  | false =>
   rw [B0 hp] at h
   obtain ⟨k,h1,h2⟩:=Jz h
   exact ⟨k,by omega,h2⟩
theorem LJ {a:Int} {n:Nat} {f:Nat->E6} (h:IsCycle a n f):IsCycle a n (λi=>Bl n f i):=by
 have h1:=Jp n (λi=>Bx (f i))
 have h2:=h.lo
 exact h.turned (show BZ n (λi=>Bx (f i)) < n by omega)
theorem Li {a:Int} {n:Nat} {f:Nat->E6} (h:IsCycle a n f):E4 (λi=>As (Bl n f i)) n < n ∧ As (Bl n f (E4 (λi=>As (Bl n f i)) n)) = true ∧ (∀ i,i < E4 (λi=>As (Bl n f i)) n->As (Bl n f i) = false) ∧ shQ n f < n:=by
 have h2:=h.lo
 have h3:=(LJ h).outer
 obtain ⟨k,h4,h5⟩:=Jz (p:=λi=>As (Bl n f i)) (n:=n) (by omega)
 obtain ⟨h6,h7,h8⟩:=E3 (p:=λi=>As (Bl n f i)) h4 h5
 exact ⟨by omega,h7,h8,Nat.mod_lt _ (by omega)⟩
theorem Ez {a:Int} {n:Nat} {f:Nat->E6} (h:IsCycle a n f):IsCycle a n (shG n f) :=
 OU ((LJ h).turned (Li h).2.2.2) λi hi=>IZ hi
theorem RR {a:Int} {n:Nat} {f:Nat->E6} (h:IsCycle a n f):obF (shG n f) (n - 1) = true:=by
 obtain ⟨h1,h2,h3,h4⟩:=Li h
 have hlo:=h.lo
 unfold obF
 rw [IZ (by omega)]
 have:(shQ n f+(n - 1)) % n = E4 (λi=>As (Bl n f i)) n:=by
  unfold shQ
  rw [Nat.mod_add_mod,show E4 (λi=>As (Bl n f i)) n+1+(n - 1) = E4 (λi=>As (Bl n f i)) n+n by omega,Nat.add_mod_right,Nat.mod_eq_of_lt h1]
 rw [this]
 exact h2
theorem Qz {p:Nat->Bool} {n:Nat} (h:2 <= Ak p n):rN p n n = Ak p n:=by
 have hn:0 < n:=by
  rcases Nat.eq_zero_or_pos n with h0 | h0
  ·subst h0; simp [Ak] at h
  ·exact h0
 have h1:=YG p n (n - 1) (by omega)
 rw [show n - 1+1 = n by omega] at h1
 rw [h1]
 have h2:=LK p (n - 1)
 rw [show n - 1+1 = n by omega] at h2
 split <;> omega
theorem S3 {Γ:Cx} {zs:List (Nat × List (Nat × V))} {loops:List (Nat × Lp)} (h:Γ.loop = CC zs loops):BP Γ:=λid f st r hr=>by
 rw [h] at hr
 have by':∀ st,(AZ loops id f st).sem = some r->∃ l m,(A8 f l m st).sem = some r:=λst hr=>by
  unfold AZ at hr
  split at hr
  ·exact ⟨_,_,hr⟩
  ·cases hr
 unfold CC at hr
 split at hr
 ·obtain ⟨l,m,h1⟩:=by' _ hr
  exact ⟨_,l,m,R6 _ _,h1⟩
 ·obtain ⟨l,m,h1⟩:=by' _ hr
  exact ⟨_,l,m,LE.refl _,h1⟩
def AgE:List (Nat × List (Nat × V)):=[(2,[(3,eV zE)]),(4,[(4,evV ⟨0,0,0,0,0⟩),(5,iV (-1))]),(6,[(7,iV 0)])]
def AcJ (a:Int) (n:Nat) (f:Nat->E6):List (Nat × Lp):=[(0,YW a n f),(2,NR a n f),(4,NQ a n f),(6,JQ a n f)]
noncomputable def Xl (a:Int) (n:Nat) (f:Nat->E6):Cx:=⟨Dt,CC AgE (AcJ a n f),Gl⟩
theorem Z7 (a:Int) (n:Nat) (f:Nat->E6) (z:Nat) (j:Nat->V):CW (JK a n f z 0 (λ_=>.und) j) [(3,eV zE)] = JK a n f z 0 (λ_=>eV zE) j:=by kernel_rfl
theorem Z6 (a:Int) (n:Nat) (f:Nat->E6) (z:Nat) (g:Nat->E6):CW (MR a n f z g) [(4,evV ⟨0,0,0,0,0⟩),(5,iV (-1))] = Ql a n f 0 0 0 0 g (thF n g) (loF n g) (λ_=>-1) (λ_=>evV ⟨0,0,0,0,0⟩) (λ_=>0) (λi=>nth (MR a n f z g).t i):=by kernel_rfl
theorem Z5 (a:Int) (n:Nat) (f:Nat->E6) (q m kk:Nat) (tt:Int) (g:Nat->E6) (th lo r:Nat->Int) (x:Nat->Ev5) (pl:Int->Int):CW (MQ a n f q m kk tt g th lo r x pl) [(7,iV 0)] = Lg a n f 0 kk tt g x r (λ_=>0) (λ_ _=>0) (λi=>nth (MQ a n f q m kk tt g th lo r x pl).t i):=by kernel_rfl
theorem Ah3 (G:Nat->E6):upE 0 G = λ_=>zE:=by funext i; simp [upE]
theorem Acy (n:Nat) (g:Nat->E6):upX n g 0 = λ_=>⟨0,0,0,0,0⟩:=by funext i; simp [upX]
theorem AiM (n:Nat) (g:Nat->E6):plM n g 0 = λ_=>0:=rfl
theorem ZJ (n:Nat) (g:Nat->E6):dnF n g (By (mbF g) n) 0 0 = λ_=>false:=by
 funext j
 unfold dnF
 rw [ZI]
 simp
theorem UW (n:Nat) (g:Nat->E6):upX n g n = evF n g (dnF n g (By (mbF g) n) 0 0):=by
 rw [ZJ]
 funext i
 unfold upX
 by_cases hi:i < n
 ·rw [decide_eq_true hi]; rfl
 ·rw [decide_eq_false hi]
  unfold evF
  rw [decide_eq_false hi]
  rfl
theorem Aij (n:Nat) (g:Nat->E6):rfF n g (dnF n g (By (mbF g) n) 0 0) = λ_=>-1:=by
 rw [ZJ]
 rfl
def Ai9 (n:Nat) (g:Nat->E6):List Blk:=[.row 44 6 n (λi=>eV (g i)),.row 40 5 n (λi=>evV (evF n g (dnF n g (By (mbF g) n) n 0) i)),.row 3 1 n (λi=>iV (rfF n g (dnF n g (By (mbF g) n) n 0) i)),
 .jag ⟨25,1,kkN n g,λ_=>.nilS,0,3,1,λ_=>true,lnP n g n 0,λk i=>iV (coP n g n 0 k i)⟩]
theorem AfV {n:Nat} {g:Nat->E6} (hk:0 < kkN n g):AE (Ai9 n g) (Qo n g):=by
 have hn:0 < n:=by
  rcases Nat.eq_zero_or_pos n with h0 | h0
  ·subst h0; simp [kkN,Ak] at hk
  ·exact h0
 obtain ⟨k0,hk0,hm⟩:=Jz hk
 have hd:∀ i,i < n->dnF n g (By (mbF g) n) n 0 i = true:=λi hi=>by
  unfold dnF
  rw [decide_eq_true hi,Tk]
  ·rfl
  ·exact G8 hn
 refine .cons (λ_ _=>rfl) (.cons (λi hi=>?_) (.cons (λi hi=>?_) (.consB (.jag (λ_ _=>.inr rfl) (λ_ _=>rfl) (λk hk'=>?_) (λk hk' q hq=>?_)) (.refl []))))
 ·rw [BU hi,BU hi,hd i hi]
 ·unfold rfF
  rw [hd i hi]
 ·have hk':k < kkN n g:=hk'
  have:=(GM hk').1
  show lnN _ _ n k = lnP n g n 0 k
  unfold lnP
  rw [if_pos hk',if_pos this]
 ·have hk':k < kkN n g:=hk'
  have hq:q < lnP n g n 0 k:=hq
  show iV _ = iV _
  unfold coP
  rw [if_pos hq]
theorem Aef {a:Int} {n:Nat} {f:Nat->E6} (h8:AN n = true) (hc:ieq (BS a n f) 0 = true) :
  (A2 (An tab (Xl a n f) Try.f14 [iV a,A3 n f] [])).sem = some (.tup [Qn a n (shG n f),iV 0,iV 0],Ai9 n (shG n f)):=by
 have hy:=E9 hc
 have hlo:=hy.lo
 have hhi:=hy.hi
 have hL:=DW AgE (AcJ a n f)
 obtain ⟨z1,z2,z3,z4⟩:=Li hy
 have hg:=Ez hy
 have hko:rN (obF (shG n f)) n n = ttN n (shG n f):=Qz hg.outer
 have hkm:rN (mbF (shG n f)) n n = kkN n (shG n f):=Qz hg.moves
 have hkl:kkN n (shG n f) <= n:=Bd _ _
 have c1:Af (ilt 0 (ofNat n)) (Af (CV n) (BK 8 (ofNat n) (ofNat n))) = true:=by
  unfold Af ilt CV BK
  simp only [Int.ofNat_eq_natCast,Bool.and_eq_true,decide_eq_true_eq]
  omega
 have c2:BK 24 (ofNat (kkN n (shG n f))) (ofNat (kkN n (shG n f))) = true:=by
  unfold BK
  simp only [Int.ofNat_eq_natCast,Bool.and_eq_true,decide_eq_true_eq]
  omega
 have hm:∃ k,k < n ∧ mbF (shG n f) k = true:=Jz (p:=mbF (shG n f)) (by have:=hg.moves; show 0 < Ak (λk=>Ar (shG n f k)) n; omega)
 unfold Xl
 refine A6 (Az (Az (Az (Az hL hL) hL) hL) hL) _ (AjT _ _ _ _ _ a n f (shQ n f) n (kkN n (shG n f)) (ofNat (ttN n (shG n f))) (shG n f) (thF n (shG n f)) (loF n (shG n f)) (λ_=>-1) (upX n (shG n f) n) (plM n (shG n f) n)
  (evF n (shG n f) (dnF n (shG n f) (By (mbF (shG n f)) n) n 0)) (rfF n (shG n f) (dnF n (shG n f) (By (mbF (shG n f)) n) n 0)) (lnP n (shG n f) n 0) (coP n (shG n f) n 0) h8 hc hy.may c1 Cg c2 (Am ?_) (Am ?_) (Am ?_) (Am ?_))
 ·show (A8 _ (YW a n f) (n+1) _).sem = _
  exact Ac8 _ a n f (by omega) _ z1 z2 z3 _ 0 _ (n+1) (Nat.zero_add _).symm (by omega)
 ·show (A8 _ (NR a n f) (n+1) (CW _ [(3,eV zE)])).sem = _
  rw [Z7]
  have h:=λL j=>Y3 L a n f hhi (shQ n f) z4 n 0 j (n+1) (by omega) (by omega)
  rw [Ah3] at h
  exact h _ _
 ·show (A8 _ (NQ a n f) (n+1) (CW _ [(4,evV ⟨0,0,0,0,0⟩),(5,iV (-1))])).sem = _
  rw [Z6]
  have h:=λL j=>Y2 L a n f hhi (shG n f) n 0 j (n+1) (by omega) (by omega)
  rw [Acy,AiM,hko,hkm] at h
  exact h _ _
 ·show (A8 _ (JQ a n f) (n+1) (CW _ [(7,iV 0)])).sem = _
  rw [Z5]
  have h:=λL j=>Y1 L a n f hhi (shG n f) (ofNat (ttN n (shG n f))) hm n 0 j (n+1) (by omega) (by omega)
  rw [<- UW,Aij,AcL,Ajv] at h
  exact h _ _
theorem p14:AA Try.prog Gl 14 ofT:=by
 refine A5 AQ AR Try.func14 (by kernel_rfl) (by kernel_rfl) λvs v h' h=>?_
 unfold ofT at h
 split at h
 ·rename_i a u
  obtain ⟨n,f,ha,h1⟩:=Cl h
  obtain ⟨h8,hq⟩:=Ag h1
  have hA:BL [iV a,u] [iV a,A3 n f]:=λS w cs hv=>by
   obtain ⟨c,l,rfl,q1,d,l',rfl,q2,q3⟩:=hv
   exact ⟨c,_,rfl,q1,d,l',rfl,ha S w d q2,q3⟩
  have hx:Bj Try.prog (Xl a n f).base ∧ BP (Xl a n f):=⟨Xt,S3 rfl⟩
  cases hc:ieq (BS a n f) 0 with
  | true =>
   rw [hc] at hq
   have:=Ac hq
   simp only [Prod.mk.injEq] at this
   obtain ⟨rfl,rfl⟩:=this
   have hg:=Ez (E9 hc)
   have hm:=hg.moves
   exact ⟨_,Xl a n f,_,hA,rfl,hx.1,hx.2,Aef h8 hc,AfV (by show 0 < Ak (λk=>Ar (shG n f k)) n; omega)⟩
  | false =>
   rw [hc] at hq
   have:=Ac hq
   simp only [Prod.mk.injEq] at this
   obtain ⟨rfl,rfl⟩:=this
   exact ⟨_,Xl a n f,_,hA,rfl,hx.1,hx.2,AjU _ a n f h8 hc,AE.refl _⟩
 ·cases h
end Go.Proofs.Ytjhnfomefcngfaa.Sh
