/-
  Layer 7: the program's shape of a cycle. No conditions.
-/
import Derived.Test.YtjhnfomefcngfaaCyT
import Derived.Test.YtjhnfomefcngfaaCyU
namespace Go.Proofs.Ytjhnfomefcngfaa.Sh
open Go.Sy Ed
open Int (ofNat)
set_option maxHeartbeats 1000000
set_option maxRecDepth 4000
noncomputable def AhO:List (Nat × (List V->T (V × List Blk))):=[(50,Xy),(51,O8),(52,BQ λe=>bV (As e)),(53,Agq),(54,BQ λe=>bV (Ar e))]
theorem AaT:AB Try.prog Gl AhO:=.cons p48 <| .cons p65 <| .cons p52 <| .cons p53 <| .cons p54 .nil
def JC:List (Nat × Lp):=[(0,⟨(bmK 84 0 [0,1,4,5,6,7,23,24]),9,bmK 84 0 [],9,17⟩)]
noncomputable def Dp:FuncId->List V->St->T (V × Res):=KP [(55,KA tab (AS Gl TN JC) Try.f55)] (Ap AhO)
theorem X2:Bj Try.prog ⟨Dp,Gl⟩:=Hm AP (.cons rfl AO (AQ Vj JC).1 (AQ Vj JC).2 Try.func55 (by kernel_rfl) (by kernel_rfl) .nil) (En rfl AaT)
theorem Aku (L:LT) (a:Int) (n:Nat) (f:Nat->E6) (h0:AN n = true) (h1:ieq (BR a n f) 0 = false):(Az (Ak tab ⟨Dp,L,Gl⟩ Try.f14 [iV a,.sl 6 n λi=>eV (f i)] [])).sem = some ((.tup [.agg [iV 0,.ref 0,.ref 1,iV 0,iV 0,.ref 2,.jref 3],iV (BR a n f),iV (LH a n f)]),[.row 44 6 0 (λ_=>.und),.row 40 5 0 (λ_=>.und),r3Z,jgZ]):=Aa [true,true,true] [Au n (λ_=>true),AN n,An (ieq (BR a n f) 0)] (by kernel_rfl) (by simp only [h0,h1,Aw] <;> rfl)
def Za (a:Int) (n:Nat) (f:Nat->E6):Lp:=⟨(bmK 164 0 [0,4,5,6,9,11,12,39,40]),2,bmK 164 0 [0,4,5,6,9,11,12],2,n+1⟩
def Yi (a:Int) (n:Nat) (f:Nat->E6) (b:Nat) (j:Nat->V):St:=⟨(jsV 164 0 j [(0,iV a),(4,.ptr 0 0),(5,iV 0),(6,iV 0),(9,.ref 1),(11,nV n),(12,iV 0),(39,nV n),(40,nV b)]),[c7Z,.row 44 6 n (λi=>eV (Bk n f i))]⟩
def ZL (a:Int) (n:Nat) (f:Nat->E6) (b:Nat):Ex × St:=(.ex 0,⟨(jsV 164 0 (λ_=>.und) [(0,iV a),(4,.ptr 0 0),(5,iV 0),(6,iV 0),(9,.ref 1),(11,nV n),(12,nV b)]),[c7Z,.row 44 6 n (λi=>eV (Bk n f i))]⟩)
noncomputable def OB (L:LT):St->T (Ex × St):=λst=>AF tab ⟨Dp,L,Gl⟩ (A1 Try.f14 0) 0 st
section
variable (L:LT) (a:Int) (n:Nat) (f:Nat->E6) (b:Nat)  (j:Nat->V)
include L a n f b j
theorem Ai4 (h0:ilt (ofNat b) (ofNat n) = true) (h13:ile 0 (ofNat b) = true) (h1:nlt b n = true) (h2:As (Bk n f b) = false):Ai (OB L) (Za a n f) (Yi a n f b j) = some (.nm,⟨(jsV 164 0 (λ_=>.und) [(0,(iV a)),(4,(.ptr 0 0)),(5,(iV 0)),(6,(iV 0)),(9,(.ref 1)),(11,(nV n)),(12,(iV 0)),(39,(nV n)),(40,(iV (wr .i64 (Ae (ofNat b) 1))))]),[c7Z,.row 44 6 n (λi=>eV (Bk n f i))]⟩):=Aa [true,true,true,false] [ilt (ofNat b) (ofNat n),Af (ile 0 (ofNat b)) (ilt (ofNat b) (ofNat n)),nlt b n,As (Bk n f b)] (by kernel_rfl) (by simp only [*] <;> rfl)
theorem Ai3 (h0:ilt (ofNat b) (ofNat n) = true) (h14:ile 0 (ofNat b) = true) (h1:nlt b n = true) (h2:As (Bk n f b) = true) (h3:ieq (ofNat n) 0 = false):Ai (OB L) (Za a n f) (Yi a n f b j) = some ((.ex 0),⟨(jsV 164 0 (λ_=>.und) [(0,(iV a)),(4,(.ptr 0 0)),(5,(iV 0)),(6,(iV 0)),(9,(.ref 1)),(11,(nV n)),(12,(iV (Ab (wr .i64 (Ae (ofNat b) 1)) (ofNat n))))]),[c7Z,.row 44 6 n (λi=>eV (Bk n f i))]⟩):=Aa [true,true,true,true,false] [ilt (ofNat b) (ofNat n),Af (ile 0 (ofNat b)) (ilt (ofNat b) (ofNat n)),nlt b n,As (Bk n f b),ieq (ofNat n) 0] (by kernel_rfl) (by simp only [*] <;> rfl)
end
def Ajs (a:Int) (n:Nat) (f:Nat->E6) :Nat->V:=lkV AA [(1,(.sl 6 n (λi=>eV (f i)))),(7,(iV (BR a n f))),(8,(iV (LH a n f))),(10,(iV 0)),(21,(.tup [iV (BR a n f),iV (LH a n f)])),(22,(iV a)),(23,(.sl 6 n (λi=>eV (f i)))),(24,(.tup [iV (BR a n f),iV (LH a n f)])),(25,(iV (BR a n f))),(26,(iV (LH a n f))),(27,(iV (BR a n f))),(28,(bV (An (ieq (BR a n f) 0)))),(32,(.tup [.ref 1,iV 0])),(33,(.sl 6 n (λi=>eV (f i)))),(34,(.tup [.ref 1,iV 0])),(35,(.ref 1)),(36,(iV 0)),(37,(.ref 1)),(38,(nV n))]
def NS (a:Int) (n:Nat) (f:Nat->E6):Lp:=⟨(bmK 164 0 [0,4,5,6,9,11,12,14,55,56]),7,bmK 164 0 [0,4,5,6,11,14],7,n+1⟩
def JJ (a:Int) (n:Nat) (f:Nat->E6) (q b:Nat) (y:Nat->V) (j:Nat->V):St:=⟨(jsV 164 0 j [(0,iV a),(4,.ptr 0 0),(5,iV 0),(6,iV 0),(9,.ref 1),(11,nV n),(12,nV q),(14,.ptr 2 0),(55,nV n),(56,nV b)]),[c7Z,.row 44 6 n (λi=>eV (Bk n f i)),.cells [iV a,.ref 3,.ref 4,iV 0,iV 0,.ref 5,.jref 6],.row 44 6 b y,.row 40 5 0 (λ_=>.und),r3Z,jgZ]⟩
def Rn (a:Int) (n:Nat) (f:Nat->E6) (q b:Nat) (y:Nat->V):Ex × St:=(.ex 2,⟨(jsV 164 0 (λ_=>.und) [(0,iV a),(4,.ptr 0 0),(5,iV 0),(6,iV 0),(11,nV n),(14,.ptr 2 0)]),[c7Z,.row 44 6 n (λi=>eV (Bk n f i)),.cells [iV a,.ref 3,.ref 4,iV 0,iV 0,.ref 5,.jref 6],.row 44 6 b y,.row 40 5 0 (λ_=>.und),r3Z,jgZ]⟩)
noncomputable def IM (L:LT):St->T (Ex × St):=λst=>AF tab ⟨Dp,L,Gl⟩ (A1 Try.f14 2) 2 st
section
variable (L:LT) (a:Int) (n:Nat) (f:Nat->E6) (q b:Nat) (y:Nat->V)  (j:Nat->V)
include L a n f q b y j
theorem Ai0 (h0:ilt (ofNat b) (ofNat n) = false):Ai (IM L) (NS a n f) (JJ a n f q b y j) = some ((.ex 2),⟨(jsV 164 0 (λ_=>.und) [(0,(iV a)),(4,(.ptr 0 0)),(5,(iV 0)),(6,(iV 0)),(11,(nV n)),(14,(.ptr 2 0))]),[c7Z,.row 44 6 n (λi=>eV (Bk n f i)),.cells [iV a,.ref 3,.ref 4,iV 0,iV 0,.ref 5,.jref 6],.row 44 6 b y,.row 40 5 0 (λ_=>.und),r3Z,jgZ]⟩):=Aa [false] [ilt (ofNat b) (ofNat n)] (by kernel_rfl) (by simp only [h0] <;> rfl)
theorem Aiz (h0:ilt (ofNat b) (ofNat n) = true) (h1:ieq (ofNat n) 0 = false) (h13:Af (ile 0 (Ab (wr .i64 (Ae (ofNat q) (ofNat b))) (ofNat n))) (ilt (Ab (wr .i64 (Ae (ofNat q) (ofNat b))) (ofNat n)) (ofNat n)) = true) (h14:nlt (toN (Ab (wr .i64 (Ae (ofNat q) (ofNat b))) (ofNat n))) n = true) (h15:Bg b 1 40 = true):Ai (IM L) (NS a n f) (JJ a n f q b y j) = some (.nm,⟨(jsV 164 0 (λ_=>.und) [(0,(iV a)),(4,(.ptr 0 0)),(5,(iV 0)),(6,(iV 0)),(9,(.ref 1)),(11,(nV n)),(12,(nV q)),(14,(.ptr 2 0)),(55,(nV n)),(56,(iV (wr .i64 (Ae (ofNat b) 1))))]),[c7Z,.row 44 6 n (λi=>eV (Bk n f i)),.cells [iV a,.ref 3,.ref 4,iV 0,iV 0,.ref 5,.jref 6],.row 44 6 (Bn b 1) (AE b y (eV (Bk n f (toN (Ab (wr .i64 (Ae (ofNat q) (ofNat b))) (ofNat n)))))),.row 40 5 0 (λ_=>.und),r3Z,jgZ]⟩):=Aa [true,false,true,true,true] [ilt (ofNat b) (ofNat n),ieq (ofNat n) 0,Af (ile 0 (Ab (wr .i64 (Ae (ofNat q) (ofNat b))) (ofNat n))) (ilt (Ab (wr .i64 (Ae (ofNat q) (ofNat b))) (ofNat n)) (ofNat n)),nlt (toN (Ab (wr .i64 (Ae (ofNat q) (ofNat b))) (ofNat n))) n,Bg b 1 40] (by kernel_rfl) (by simp only [h13] <;> simp only [*] <;> rfl)
end
def Zt (a:Int) (n:Nat) (f:Nat->E6) (q:Nat):Nat->V:=lkV AA [(1,.und),(2,.und),(3,.und),(7,.und),(8,.und),(10,.und),(13,.und),(15,.und),(16,.und),(17,.und),(18,.und),(19,.und),(20,.und),(21,.und),(22,.und),(23,.und),(24,.und),(25,.und),(26,.und),(27,.und),(28,.und),(29,.und),(30,.und),(31,.und),(32,.und),(33,.und),(34,.und),(35,.und),(36,.und),(37,.und),(38,.und),(39,.und),(40,.und),(41,.und),(42,.und),(43,.und),(44,.und),(45,.und),(46,.und),(47,.und),(48,.und),(49,.und),(50,.und),(51,.und),(52,.und),(53,(iV a)),(54,(.agg [iV a,.nilS,.nilS,iV 0,iV 0,.nilS,.nilS])),(57,.und),(58,.und),(59,.und),(60,.und),(61,.und),(62,.und),(63,.und),(64,.und),(65,.und),(66,.und),(67,.und),(68,.und),(69,.und),(70,.und),(71,.und),(72,.und),(73,.und),(74,.und),(75,.und),(76,.und),(77,.und),(78,.und),(79,.und),(80,.und),(81,.und),(82,.und),(83,.und),(84,.und),(85,.und),(86,.und),(87,.und),(88,.und),(89,.und),(90,.und),(91,.und),(92,.und),(93,.und),(94,.und),(95,.und),(96,.und),(97,.und),(98,.und),(99,.und),(100,.und),(101,.und),(102,.und),(103,.und),(104,.und),(105,.und),(106,.und),(107,.und),(108,.und),(109,.und),(110,.und),(111,.und),(112,.und),(113,.und),(114,.und),(115,.und),(116,.und),(117,.und),(118,.und),(119,.und),(120,.und),(121,.und),(122,.und),(123,.und),(124,.und),(125,.und),(126,.und),(127,.und),(128,.und),(129,.und),(130,.und),(131,.und),(132,.und),(133,.und),(134,.und),(135,.und),(136,.und),(137,.und),(138,.und),(139,.und),(140,.und),(141,.und),(142,.und),(143,.und),(144,.und),(145,.und),(146,.und),(147,.und),(148,.und),(149,.und),(150,.und),(151,.und),(152,.und),(153,.und),(154,.und),(155,.und),(156,.und),(157,.und),(158,.und),(159,.und),(160,.und),(161,.und),(162,.und),(163,.und)]
def NR (a:Int) (n:Nat) (f:Nat->E6):Lp:=⟨(bmK 164 0 [0,4,5,6,11,14,16,17,18,80,81]),10,bmK 164 0 [4,5,6,11,14],7,n+1⟩
def Qq (a:Int) (n:Nat) (f:Nat->E6) (b m:Nat) (tt kk:Int) (g:Nat->E6) (th lo r:Nat->Int) (x:Nat->V) (pl:Int->Int) (j:Nat->V):St:=⟨(jsV 164 0 j [(0,iV a),(4,.ptr 0 0),(5,iV 0),(6,iV 0),(11,nV n),(14,.ptr 2 0),(16,.ref 7),(17,.ref 8),(18,.ref 9),(80,nV n),(81,nV b)]),[c7Z,.row 44 6 n (λi=>eV (Bk n f i)),.cells [iV a,.ref 3,.ref 4,iV tt,iV kk,.ref 5,.jref 6],.row 44 6 n (λi=>eV (g i)),.row 40 5 b x,.row 3 1 b (λi=>iV (r i)),jgZ,.row 3 1 n (λk=>iV (th k)),.row 3 1 n (λk=>iV (lo k)),.imap 76 m pl]⟩
def Rm (a:Int) (n:Nat) (f:Nat->E6) (b m:Nat) (tt kk:Int) (g:Nat->E6) (th lo r:Nat->Int) (x:Nat->V) (pl:Int->Int):Ex × St:=(.ex 4,⟨(jsV 164 0 (λ_=>.und) [(4,.ptr 0 0),(5,iV 0),(6,iV 0),(11,nV n),(14,.ptr 2 0)]),[c7Z,.row 44 6 n (λi=>eV (Bk n f i)),.cells [iV a,.ref 3,.ref 4,iV tt,iV kk,.ref 5,.jref 6],.row 44 6 n (λi=>eV (g i)),.row 40 5 b x,.row 3 1 b (λi=>iV (r i)),jgZ]⟩)
noncomputable def IL (L:LT):St->T (Ex × St):=λst=>AF tab ⟨Dp,L,Gl⟩ (A1 Try.f14 4) 4 st
section
variable (L:LT) (a:Int) (n:Nat) (f:Nat->E6) (b m:Nat) (tt kk:Int) (g:Nat->E6) (th lo r:Nat->Int) (x:Nat->V) (pl:Int->Int)  (j:Nat->V)
include L a n f b m tt kk g th lo r x pl j
theorem Aiy (h0:ilt (ofNat b) (ofNat n) = false):Ai (IL L) (NR a n f) (Qq a n f b m tt kk g th lo r x pl j) = some ((.ex 4),⟨(jsV 164 0 (λ_=>.und) [(4,(.ptr 0 0)),(5,(iV 0)),(6,(iV 0)),(11,(nV n)),(14,(.ptr 2 0))]),[c7Z,.row 44 6 n (λi=>eV (Bk n f i)),.cells [iV a,.ref 3,.ref 4,iV tt,iV kk,.ref 5,.jref 6],.row 44 6 n (λi=>eV (g i)),.row 40 5 b x,.row 3 1 b (λi=>iV (r i)),jgZ]⟩):=Aa [false] [ilt (ofNat b) (ofNat n)] (by kernel_rfl) (by simp only [h0] <;> rfl)
theorem Aix (h0:ilt (ofNat b) (ofNat n) = true) (h13:ile 0 (ofNat b) = true) (h1:nlt b n = true) (h2:Dn (th b) = true) (h14:Bg b 1 40 = true) (h15:nlt m 4611686018427387904 = true) (h16:Dn (wr .i64 (Ae (pl (th b)) 1)) = true) (h17:Bg b 1 8 = true):Ai (IL L) (NR a n f) (Qq a n f b m tt kk g th lo r x pl j) = some (.nm,⟨(jsV 164 0 (λ_=>.und) [(0,(iV a)),(4,(.ptr 0 0)),(5,(iV 0)),(6,(iV 0)),(11,(nV n)),(14,(.ptr 2 0)),(16,(.ref 7)),(17,(.ref 8)),(18,(.ref 9)),(80,(nV n)),(81,(iV (wr .i64 (Ae (ofNat b) 1))))]),[c7Z,.row 44 6 n (λi=>eV (Bk n f i)),.cells [iV a,.ref 3,.ref 4,iV (sel (ilt tt (wr .i64 (Ae (th b) 1))) (wr .i64 (Ae (th b) 1)) tt),iV (sel (ilt kk (wr .i64 (Ae (lo b) 1))) (wr .i64 (Ae (lo b) 1)) kk),.ref 5,.jref 6],.row 44 6 n (λi=>eV (g i)),.row 40 5 (Bn b 1) (AE b x (.agg [iV (th b),iV (pl (th b)),iV ((g b)).src,iV (lo b),iV 0])),.row 3 1 (Bn b 1) (AE b (λi=>iV (r i)) (iV (-1))),jgZ,.row 3 1 n (λk=>iV (th k)),.row 3 1 n (λk=>iV (lo k)),.imap 76 (Bn m 1) (λi=>sel (ieq i (th b)) (wr .i64 (Ae (pl (th b)) 1)) (pl i))]⟩):=Aa (bbK 22 4194303) ((λc0 c1 c2=>[ilt (ofNat b) (ofNat n),c0,c1,c0,c1,c2,c0,c1,c0,c1,Bg b 1 40,c0,c1,c2,nlt m 4611686018427387904,c2,Dn (wr .i64 (Ae (pl (th b)) 1)),c0,c1,c0,c1,Bg b 1 8]) (Af (ile 0 (ofNat b)) (ilt (ofNat b) (ofNat n))) (nlt b n) (Dn (th b))) (by kernel_rfl) (by simp only [*] <;> rfl)
end
def JO (a:Int) (n:Nat) (f:Nat->E6):Lp:=⟨(bmK 164 0 [4,11,14,145,146]),8,bmK 164 0 [4,14],8,n+1⟩
def Le (a:Int) (n:Nat) (f:Nat->E6) (b kk:Nat) (tt:Int) (g:Nat->E6) (x:Nat->Ev5) (r:Nat->Int) (ln:Nat->Nat) (co:Nat->Nat->Int) (j:Nat->V):St:=⟨(jsV 164 0 j [(4,.ptr 0 0),(11,nV n),(14,.ptr 2 0),(145,nV n),(146,nV b)]),[c7Z,.row 44 6 n (λi=>eV (Bk n f i)),.cells [iV a,.ref 3,.ref 4,iV tt,nV kk,.ref 5,.jref 7],.row 44 6 n (λi=>eV (g i)),.row 40 5 n (λi=>evV (x i)),.row 3 1 n (λi=>iV (r i)),jgZ,.jag (Jag.mk 25 1 kk (λ_=>.nilS) 0 3 1 (λ_=>true) ln (λi k=>iV (co i k)))]⟩
def Rl (a:Int) (n:Nat) (f:Nat->E6) (b kk:Nat) (tt:Int) (g:Nat->E6) (x:Nat->Ev5) (r:Nat->Int) (ln:Nat->Nat) (co:Nat->Nat->Int):Ex × St:=(.ex 6,⟨(jsV 164 0 (λ_=>.und) [(4,.ptr 0 0),(14,.ptr 2 0)]),[c7Z,.row 44 6 n (λi=>eV (Bk n f i)),.cells [iV a,.ref 3,.ref 4,iV tt,nV kk,.ref 5,.jref 7],.row 44 6 n (λi=>eV (g i)),.row 40 5 n (λi=>evV (x i)),.row 3 1 n (λi=>iV (r i)),jgZ,.jag (Jag.mk 25 1 kk (λ_=>.nilS) 0 3 1 (λ_=>true) ln (λi k=>iV (co i k)))]⟩)
def TU (n b:Nat) (u:Nat->V):List V:=(jsV 164 0 u [(4,.ptr 0 0),(11,nV n),(14,.ptr 2 0),(145,nV n),(146,nV b)])
noncomputable def Ho (L:LT):St->T (Ex × St):=λst=>AF tab ⟨Dp,L,Gl⟩ (A1 Try.f14 6) 6 st
section
variable (L:LT) (a:Int) (n:Nat) (f:Nat->E6) (b kk:Nat) (tt:Int) (g:Nat->E6) (x:Nat->Ev5) (r:Nat->Int) (ln:Nat->Nat) (co:Nat->Nat->Int)  (j:Nat->V)
include L a n f b kk tt g x r ln co j
theorem Ain (h0:ilt (ofNat b) (ofNat n) = false):(((AF tab ⟨Dp,L,Gl⟩ (A1 Try.f14 6) 6 (Le a n f b kk tt g x r ln co j)).bind λr=>T.leaf (Pa (JO a n f) r))).sem = some ((.ex 6),⟨(jsV 164 0 (λ_=>.und) [(4,(.ptr 0 0)),(14,(.ptr 2 0))]),[c7Z,.row 44 6 n (λi=>eV (Bk n f i)),.cells [iV a,.ref 3,.ref 4,iV tt,nV kk,.ref 5,.jref 7],.row 44 6 n (λi=>eV (g i)),.row 40 5 n (λi=>evV (x i)),.row 3 1 n (λi=>iV (r i)),jgZ,.jag (Jag.mk 25 1 kk (λ_=>.nilS) 0 3 1 (λ_=>true) ln (λi k=>iV (co i k)))]⟩):=Aa [false] [ilt (ofNat b) (ofNat n)] (by kernel_rfl) (by simp only [h0] <;> rfl)
theorem Aim (h0:ilt (ofNat b) (ofNat n) = true) (h1:ieq (ofNat n) 0 = false) (h14:Af (ile 0 (Ab (wr .i64 (A2 (wr .i64 (Ae (ofNat b) (ofNat n))) 1)) (ofNat n))) (ilt (Ab (wr .i64 (A2 (wr .i64 (Ae (ofNat b) (ofNat n))) 1)) (ofNat n)) (ofNat n)) = true) (h15:nlt (toN (Ab (wr .i64 (A2 (wr .i64 (Ae (ofNat b) (ofNat n))) 1)) (ofNat n))) n = true) (h2:Ar (g (toN (Ab (wr .i64 (A2 (wr .i64 (Ae (ofNat b) (ofNat n))) 1)) (ofNat n)))) = false):(((AF tab ⟨Dp,L,Gl⟩ (A1 Try.f14 6) 6 (Le a n f b kk tt g x r ln co j)).bind λr=>T.leaf (Pa (JO a n f) r))).sem = some (.nm,⟨(jsV 164 0 (λ_=>.und) [(4,(.ptr 0 0)),(11,(nV n)),(14,(.ptr 2 0)),(145,(nV n)),(146,(iV (wr .i64 (Ae (ofNat b) 1))))]),[c7Z,.row 44 6 n (λi=>eV (Bk n f i)),.cells [iV a,.ref 3,.ref 4,iV tt,nV kk,.ref 5,.jref 7],.row 44 6 n (λi=>eV (g i)),.row 40 5 n (λi=>evV (x i)),.row 3 1 n (λi=>iV (r i)),jgZ,.jag (Jag.mk 25 1 kk (λ_=>.nilS) 0 3 1 (λ_=>true) ln (λi k=>iV (co i k)))]⟩):=Aa [true,false,true,true,false] [ilt (ofNat b) (ofNat n),ieq (ofNat n) 0,Af (ile 0 (Ab (wr .i64 (A2 (wr .i64 (Ae (ofNat b) (ofNat n))) 1)) (ofNat n))) (ilt (Ab (wr .i64 (A2 (wr .i64 (Ae (ofNat b) (ofNat n))) 1)) (ofNat n)) (ofNat n)),nlt (toN (Ab (wr .i64 (A2 (wr .i64 (Ae (ofNat b) (ofNat n))) 1)) (ofNat n))) n,Ar (g (toN (Ab (wr .i64 (A2 (wr .i64 (Ae (ofNat b) (ofNat n))) 1)) (ofNat n))))] (by kernel_rfl) (by simp only [h14] <;> simp only [*] <;> rfl)
end
theorem Ail (L:LT) (a:Int) (n:Nat) (f:Nat->E6) (b kk:Nat) (tt:Int) (g:Nat->E6) (x:Nat->Ev5) (r:Nat->Int) (ln:Nat->Nat) (co:Nat->Nat->Int) (u:Nat->V) (x':Nat->Ev5) (r':Nat->Int) (ln':Nat->Nat) (co':Nat->Nat->Int) (q55:List V->St->Bool) (j:Nat->V) (h0:ilt (ofNat b) (ofNat n) = true) (h1:ieq (ofNat n) 0 = false) (h14:Af (ile 0 (Ab (wr .i64 (A2 (wr .i64 (Ae (ofNat b) (ofNat n))) 1)) (ofNat n))) (ilt (Ab (wr .i64 (A2 (wr .i64 (Ae (ofNat b) (ofNat n))) 1)) (ofNat n)) (ofNat n)) = true) (h15:nlt (toN (Ab (wr .i64 (A2 (wr .i64 (Ae (ofNat b) (ofNat n))) 1)) (ofNat n))) n = true) (h2:Ar (g (toN (Ab (wr .i64 (A2 (wr .i64 (Ae (ofNat b) (ofNat n))) 1)) (ofNat n)))) = true) (hq55:(q55 [.ptr 2 0,nV b] ⟨(jsV 164 0 j [(4,(.ptr 0 0)),(11,(nV n)),(14,(.ptr 2 0)),(20,(nV b)),(145,(nV n)),(146,(nV b)),(147,(bV (ilt (ofNat b) (ofNat n)))),(148,(nV b)),(149,(.ptr 2 1)),(150,(.ref 3)),(151,(nV b)),(152,(nV n)),(153,(iV (wr .i64 (Ae (ofNat b) (ofNat n))))),(154,(iV (wr .i64 (A2 (wr .i64 (Ae (ofNat b) (ofNat n))) 1)))),(155,(nV n)),(156,(iV (Ab (wr .i64 (A2 (wr .i64 (Ae (ofNat b) (ofNat n))) 1)) (ofNat n)))),(157,(.ept 3 6 (toN (Ab (wr .i64 (A2 (wr .i64 (Ae (ofNat b) (ofNat n))) 1)) (ofNat n))) 0)),(158,(eV (g (toN (Ab (wr .i64 (A2 (wr .i64 (Ae (ofNat b) (ofNat n))) 1)) (ofNat n)))))),(159,(bV (Ar (g (toN (Ab (wr .i64 (A2 (wr .i64 (Ae (ofNat b) (ofNat n))) 1)) (ofNat n))))))),(160,(nV b))]),[c7Z,.row 44 6 n (λi=>eV (Bk n f i)),.cells [iV a,.ref 3,.ref 4,iV tt,nV kk,.ref 5,.jref 7],.row 44 6 n (λi=>eV (g i)),.row 40 5 n (λi=>evV (x i)),.row 3 1 n (λi=>iV (r i)),jgZ,.jag (Jag.mk 25 1 kk (λ_=>.nilS) 0 3 1 (λ_=>true) ln (λi k=>iV (co i k)))]⟩) = true):(((AF tab ⟨(onC 55 q55 (.tup [],.all ⟨TU n b u,[c7Z,.row 44 6 n (λi=>eV (Bk n f i)),.cells [iV a,.ref 3,.ref 4,iV tt,nV kk,.ref 5,.jref 7],.row 44 6 n (λi=>eV (g i)),.row 40 5 n (λi=>evV (x' i)),.row 3 1 n (λi=>iV (r' i)),jgZ,.jag (Jag.mk 25 1 kk (λ_=>.nilS) 0 3 1 (λ_=>true) ln' (λi k=>iV (co' i k)))] ++ [.dead]⟩) (Dp)),L,Gl⟩ (A1 Try.f14 6) 6 (Le a n f b kk tt g x r ln co j)).bind λr=>T.leaf (Pa (JO a n f) r))).sem = some (.nm,⟨(jsV 164 0 (λ_=>.und) [(4,(.ptr 0 0)),(11,(nV n)),(14,(.ptr 2 0)),(145,(nV n)),(146,(iV (wr .i64 (Ae (ofNat b) 1))))]),[c7Z,.row 44 6 n (λi=>eV (Bk n f i)),.cells [iV a,.ref 3,.ref 4,iV tt,nV kk,.ref 5,.jref 7],.row 44 6 n (λi=>eV (g i)),.row 40 5 n (λi=>evV (x' i)),.row 3 1 n (λi=>iV (r' i)),jgZ,.jag (Jag.mk 25 1 kk (λ_=>.nilS) 0 3 1 (λ_=>true) ln' (λi k=>iV (co' i k)))]⟩):=Aa (bbK 6 61) [ilt (ofNat b) (ofNat n),ieq (ofNat n) 0,Af (ile 0 (Ab (wr .i64 (A2 (wr .i64 (Ae (ofNat b) (ofNat n))) 1)) (ofNat n))) (ilt (Ab (wr .i64 (A2 (wr .i64 (Ae (ofNat b) (ofNat n))) 1)) (ofNat n)) (ofNat n)),nlt (toN (Ab (wr .i64 (A2 (wr .i64 (Ae (ofNat b) (ofNat n))) 1)) (ofNat n))) n,Ar (g (toN (Ab (wr .i64 (A2 (wr .i64 (Ae (ofNat b) (ofNat n))) 1)) (ofNat n)))),q55 [.ptr 2 0,nV b] ⟨(jsV 164 0 j [(4,(.ptr 0 0)),(11,(nV n)),(14,(.ptr 2 0)),(20,(nV b)),(145,(nV n)),(146,(nV b)),(147,(bV (ilt (ofNat b) (ofNat n)))),(148,(nV b)),(149,(.ptr 2 1)),(150,(.ref 3)),(151,(nV b)),(152,(nV n)),(153,(iV (wr .i64 (Ae (ofNat b) (ofNat n))))),(154,(iV (wr .i64 (A2 (wr .i64 (Ae (ofNat b) (ofNat n))) 1)))),(155,(nV n)),(156,(iV (Ab (wr .i64 (A2 (wr .i64 (Ae (ofNat b) (ofNat n))) 1)) (ofNat n)))),(157,(.ept 3 6 (toN (Ab (wr .i64 (A2 (wr .i64 (Ae (ofNat b) (ofNat n))) 1)) (ofNat n))) 0)),(158,(eV (g (toN (Ab (wr .i64 (A2 (wr .i64 (Ae (ofNat b) (ofNat n))) 1)) (ofNat n)))))),(159,(bV (Ar (g (toN (Ab (wr .i64 (A2 (wr .i64 (Ae (ofNat b) (ofNat n))) 1)) (ofNat n))))))),(160,(nV b))]),[c7Z,.row 44 6 n (λi=>eV (Bk n f i)),.cells [iV a,.ref 3,.ref 4,iV tt,nV kk,.ref 5,.jref 7],.row 44 6 n (λi=>eV (g i)),.row 40 5 n (λi=>evV (x i)),.row 3 1 n (λi=>iV (r i)),jgZ,.jag (Jag.mk 25 1 kk (λ_=>.nilS) 0 3 1 (λ_=>true) ln (λi k=>iV (co i k)))]⟩] (by kernel_rfl) (by simp only [hq55] <;> simp only [h14] <;> simp only [*] <;> rfl)
def MR (a:Int) (n:Nat) (f:Nat->E6) (q:Nat) (g:Nat->E6):St:=⟨(jsV 164 0 (λ_=>.und) [(0,(iV a)),(4,(.ptr 0 0)),(5,(iV 0)),(6,(iV 0)),(11,(nV n)),(14,(.ptr 2 0)),(16,(.ref 7)),(17,(.ref 8)),(18,(.ref 9)),(73,(.ptr 2 1)),(74,(.ref 3)),(75,(.ref 7)),(76,(.ptr 2 1)),(77,(.ref 3)),(78,(.ref 8)),(79,(.ref 9)),(80,(nV n)),(81,(iV 0))]),[c7Z,.row 44 6 n (λi=>eV (Bk n f i)),.cells [iV a,.ref 3,.ref 4,iV 0,iV 0,.ref 5,.jref 6],.row 44 6 n (λi=>eV (g i)),.row 40 5 0 (λ_=>.und),r3Z,jgZ,.row 3 1 n (λk=>iV (Av (λk=>As (g k)) n k)),.row 3 1 n (λk=>iV (Av (λk=>Ar (g k)) n k)),.imap 76 0 (λ_=>0)]⟩
def MQ (a:Int) (n:Nat) (f:Nat->E6) (q m kk:Nat) (tt:Int) (g:Nat->E6) (th lo r:Nat->Int) (x:Nat->Ev5) (pl:Int->Int):St:=⟨(jsV 164 0 (λ_=>.und) [(4,(.ptr 0 0)),(5,(iV 0)),(6,(iV 0)),(11,(nV n)),(14,(.ptr 2 0)),(141,(.ptr 2 4)),(142,(nV kk)),(143,(.jref 7)),(144,(.ptr 2 6)),(145,(nV n)),(146,(iV 0))]),[c7Z,.row 44 6 n (λi=>eV (Bk n f i)),.cells [iV a,.ref 3,.ref 4,iV tt,nV kk,.ref 5,.jref 7],.row 44 6 n (λi=>eV (g i)),.row 40 5 n (λi=>evV (x i)),.row 3 1 n (λi=>iV (r i)),jgZ,.jag (Jag.mk 25 1 kk (λ_=>.nilS) 0 3 1 (λ_=>true) (λ_=>0) (λ_ _=>.und))]⟩
noncomputable abbrev Iv (L:LT) (p0:PT) (p2:PT) (p4:PT) (p6:PT) (a:Int) (n:Nat) (f:Nat->E6) (q:Nat) (m:Nat) (kk:Nat) (tt:Int) (g:Nat->E6) (th:Nat->Int) (lo:Nat->Int) (r:Nat->Int) (x:Nat->Ev5) (pl:Int->Int) (x':Nat->Ev5) (r':Nat->Int) (ln':Nat->Nat) (co':Nat->Nat->Int):LT:=onP 0 p0 (ZL a n f q) (onP 2 p2 (Rn a n f q n (λi=>eV (g i))) (onP 4 p4 (Rm a n f n m tt (ofNat kk) g th lo r (λi=>evV (x i)) pl) (onP 6 p6 (Rl a n f n kk tt g x' r' ln' co') L)))
theorem Akt (L:LT) (p0:PT) (p2:PT) (p4:PT) (p6:PT) (a:Int) (n:Nat) (f:Nat->E6) (q m kk:Nat) (tt:Int) (g:Nat->E6) (th lo r:Nat->Int) (x:Nat->Ev5) (pl:Int->Int) (x':Nat->Ev5) (r':Nat->Int) (ln':Nat->Nat) (co':Nat->Nat->Int) (h0:AN n = true) (h1:ieq (BR a n f) 0 = true) (h2:BM n f = true) (h3:Af (ilt 0 (ofNat n)) (Af (CR n) (BI 8 (ofNat n) (ofNat n))) = true) (h15:AW [.row 3 1 n (λ_=>iV 0)] = true) (h4:BI 24 (ofNat kk) (ofNat kk) = true) (hp0:p0 (OB (Iv L p0 p2 p4 p6 a n f q m kk tt g th lo r x pl x' r' ln' co')) (Yi a n f 0 (Ajs a n f )) = true) (hp2:p2 (IM (Iv L p0 p2 p4 p6 a n f q m kk tt g th lo r x pl x' r' ln' co')) (JJ a n f q 0 (λ_=>.und) (Zt a n f q)) = true) (hp4:p4 (IL (Iv L p0 p2 p4 p6 a n f q m kk tt g th lo r x pl x' r' ln' co')) (MR a n f q g) = true) (hp6:p6 (Ho (Iv L p0 p2 p4 p6 a n f q m kk tt g th lo r x pl x' r' ln' co')) (MQ a n f q m kk tt g th lo r x pl) = true):(Az (Ak tab ⟨Dp,onP 0 p0 (ZL a n f q) (onP 2 p2 (Rn a n f q n (λi=>eV (g i))) (onP 4 p4 (Rm a n f n m tt (ofNat kk) g th lo r (λi=>evV (x i)) pl) (onP 6 p6 (Rl a n f n kk tt g x' r' ln' co') L))),Gl⟩ Try.f14 [iV a,.sl 6 n λi=>eV (f i)] [])).sem = some ((.tup [.agg [iV a,.ref 0,.ref 1,iV tt,nV kk,.ref 2,.jref 3],iV 0,iV 0]),[.row 44 6 n (λi=>eV (g i)),.row 40 5 n (λi=>evV (x' i)),.row 3 1 n (λi=>iV (r' i)),.jag (Jag.mk 25 1 kk (λ_=>.nilS) 0 3 1 (λ_=>true) ln' (λi k=>iV (co' i k)))]):=Aa (bbK 19 524283) ((λc0 c1 c2 c3 c4=>[c0,c1,An (ieq (BR a n f) 0),c0,c1,BM n f,p0 (OB (Iv L p0 p2 p4 p6 a n f q m kk tt g th lo r x pl x' r' ln' co')) (Yi a n f 0 (Ajs a n f )),p2 (IM (Iv L p0 p2 p4 p6 a n f q m kk tt g th lo r x pl x' r' ln' co')) (JJ a n f q 0 (λ_=>.und) (Zt a n f q)),c2,c0,c3,c4,c2,c0,c3,c4,p4 (IL (Iv L p0 p2 p4 p6 a n f q m kk tt g th lo r x pl x' r' ln' co')) (MR a n f q g),BI 24 (ofNat kk) (ofNat kk),p6 (Ho (Iv L p0 p2 p4 p6 a n f q m kk tt g th lo r x pl x' r' ln' co')) (MQ a n f q m kk tt g th lo r x pl)]) (Au n (λ_=>true)) (AN n) (true) (Af (ilt 0 (ofNat n)) (Af (CR n) (BI 8 (ofNat n) (ofNat n)))) (AW [.row 3 1 n (λ_=>iV 0)])) (by kernel_rfl) (by simp only [hp0,hp2,hp4,hp6] <;> simp only [h3] <;> simp only [*,Aw,Ce] <;> rfl)
def Ab6:LT:=λ_ _ _=>.fail
theorem VD (L:LT):LLe Ab6 L:=λ_ _ _ _ _ _ h=>by cases h
def zE:E6:=⟨0,false,false,0,0,0⟩
def AgH (n:Nat) (G:Nat->E6) (i:Nat):E6:=bif decide (i < n) then G i else zE
def shQ (n:Nat) (f:Nat->E6):Nat:=(E2 (λi=>As (Bk n f i)) n+1) % n
def shG (n:Nat) (f:Nat->E6):Nat->E6:=AgH n λi=>Bk n f ((shQ n f+i) % n)
theorem AcC (L:LT) (a:Int) (n:Nat) (f:Nat->E6) (hn:n <= 4611686018427387903) (k:Nat) (hk:k < n) (ht:As (Bk n f k) = true) (hb:∀ i,i < k->As (Bk n f i) = false):∀ (e b:Nat) (j:Nat->V) (q:Nat),k = b+e->e < q ->
  (A9 (OB L) (Za a n f) q (Yi a n f b j)).sem = some (ZL a n f ((k+1) % n))
 | 0,b,j,q+1,h,_=>by
  have:k = b:=by omega
  subst this
  rw [Ad (Ai3 L a n f k j (ofNat_lt hk) (AI k) (decide_eq_true hk) ht (FS (by omega))),QU,Ao hk (by omega),C5]
  rfl
 | e+1,b,j,q+1,h,h2=>by
  have hl:b < n:=by omega
  rw [Ad (Ai4 L a n f b j (ofNat_lt hl) (AI b) (decide_eq_true hl) (hb b (by omega))),Ax,Ao hl (by omega)]
  exact AcC L a n f hn k hk ht hb e (b+1) (λ_=>.und) q (by omega) (by omega)
def upE (b:Nat) (G:Nat->E6) (i:Nat):E6:=bif decide (i < b) then G i else zE
theorem XH (b:Nat) (G:Nat->E6):AE b (λi=>eV (upE b G i)) (eV (G b)) = λi=>eV (upE (b+1) G i):=by
 funext k
 rw [BC,show Nat.beq k b = decide (k = b) by rw [Bool.eq_iff_iff]; simp]
 unfold upE
 by_cases h:k = b
 ·subst h; simp
 ·by_cases h2:k < b
  ·have:k < b+1:=by omega
   simp [h,h2,this]
  ·have:¬ k < b+1:=by omega
   simp [h,h2,this]
theorem Y4 (L:LT) (a:Int) (n:Nat) (f:Nat->E6) (hn:n <= 16) (z:Nat) (hz:z < n):∀ (e b:Nat) (j:Nat->V) (q:Nat),n = b+e->e < q ->
  (A9 (IM L) (NS a n f) q (JJ a n f z b (λi=>eV (upE b (λi=>Bk n f ((z+i) % n)) i)) j)).sem = some (Rn a n f z n (λi=>eV (upE n (λi=>Bk n f ((z+i) % n)) i)))
 | 0,b,j,q+1,h,_=>by
  have:n = b:=by omega
  subst this
  exact Ad (Ai0 L a n f z n _ j (AD (Nat.le_refl _)))
 | e+1,b,j,q+1,h,h2=>by
  have hl:b < n:=by omega
  have hI:Ab (wr .i64 (Ae (ofNat z) (ofNat b))) (ofNat n) = ofNat ((z+b) % n):=by rw [DF (by omega),C5]
  have hlt:(z+b) % n < n:=Nat.mod_lt _ (by omega)
  rw [Ad (Aiz L a n f z b _ j (ofNat_lt hl) (FS (by omega)) (by rw [hI]; exact Aq hlt) (by rw [hI]; exact decide_eq_true hlt) (Ca (by omega))),Ax,hI,Ao hl (by omega),show toN (ofNat ((z+b) % n)) = (z+b) % n from rfl,
   show Bk n f ((z+b) % n) = (λi=>Bk n f ((z+i) % n)) b from rfl,XH]
  exact Y4 L a n f hn z hz e (b+1) (λ_=>.und) q (by omega) (by omega)
def upX (n:Nat) (g:Nat->E6) (b i:Nat):Ev5:=bif decide (i < b) then evF n g (λ_=>false) i else ⟨0,0,0,0,0⟩
theorem RE (n:Nat) (g:Nat->E6) (b:Nat):AE b (λi=>evV (upX n g b i)) (evV (evF n g (λ_=>false) b)) = λi=>evV (upX n g (b+1) i):=by
 funext k
 rw [BC,show Nat.beq k b = decide (k = b) by rw [Bool.eq_iff_iff]; simp]
 unfold upX
 by_cases h:k = b
 ·subst h; simp
 ·by_cases h2:k < b
  ·have:k < b+1:=by omega
   simp [h,h2,this]
  ·have:¬ k < b+1:=by omega
   simp [h,h2,this]
theorem E0 (b:Nat) (v:V):AE b (λ_=>v) v = λ_=>v:=by
 funext k
 rw [BC]
 cases Nat.beq k b <;> rfl
def plM (n:Nat) (g:Nat->E6) (b:Nat) (x:Int):Int:=ofNat (Aj (λk=>ieq x (thF n g k)) b)
theorem Agl (n:Nat) (g:Nat->E6) {b:Nat} (hb:b < n) (hn:n <= 16):(λi=>sel (ieq i (thF n g b)) (wr .i64 (Ae (plM n g b (thF n g b)) 1)) (plM n g b i)) = plM n g (b+1):=by
 funext i
 have hc:=AX (λk=>ieq (thF n g b) (thF n g k)) b
 unfold plM
 rw [Ao (n:=n) (by omega) (by omega)]
 cases h:ieq i (thF n g b) with
 | true =>
  have:=BF h
  subst this
  rw [Bi h]
  rfl
 | false =>
  rw [Br h]
  rfl
theorem AcK {p:Nat->Bool} {n b:Nat} (hb:b < n) (hn:n <= 16):sel (ilt (ofNat (rN p n b)) (wr .i64 (Ae (Av p n b) 1))) (wr .i64 (Ae (Av p n b) 1)) (ofNat (rN p n b)) = ofNat (rN p n (b+1)):=by
 have h1:=Kt p n b hb
 have h2:=Sg p n b
 rw [F0 hb,Ao (n:=n) (by omega) (by omega),CJ,rN]
 by_cases h:Bc p n b < rN p n b
 ·rw [if_pos h,decide_eq_false (by omega)]; rfl
 ·rw [if_neg h,decide_eq_true (by omega)]
  show ofNat (Bc p n b+1) = _
  rw [show Bc p n b = rN p n b by omega]
theorem Y3 (L:LT) (a:Int) (n:Nat) (f:Nat->E6) (hn:n <= 16) (g:Nat->E6):∀ (e b:Nat) (j:Nat->V) (q:Nat),n = b+e->e < q ->
  (A9 (IL L) (NR a n f) q (Qq a n f b b (ofNat (rN (obF g) n b)) (ofNat (rN (mbF g) n b)) g (thF n g) (loF n g) (λ_=>-1) (λi=>evV (upX n g b i)) (plM n g b) j)).sem = some (Rm a n f n n (ofNat (rN (obF g) n n)) (ofNat (rN (mbF g) n n)) g (thF n g) (loF n g) (λ_=>-1) (λi=>evV (upX n g n i)) (plM n g n))
 | 0,b,j,q+1,h,_=>by
  have:n = b:=by omega
  subst this
  exact Ad (Aiy L a n f n n _ _ g _ _ _ _ _ j (AD (Nat.le_refl _)))
 | e+1,b,j,q+1,h,h2=>by
  have hl:b < n:=by omega
  have hth:thF n g b = ofNat (Bc (obF g) n b):=F0 hl
  have hpn:=N6 (p:=obF g) (n:=n) (k:=b) (by omega)
  have hcn:=AX (obF g) n
  have hc:=AX (λk=>ieq (thF n g b) (thF n g k)) b
  have fit:∀ k:Nat,k <= 100->Dn (ofNat k) = true:=λk hk=>by
   unfold Dn
   rw [decide_eq_true (by simp only [Int.ofNat_eq_natCast]; omega),decide_eq_true (by simp only [Int.ofNat_eq_natCast]; omega)]
   rfl
  rw [Ad (Aix L a n f b b _ _ g _ _ _ _ _ j (ofNat_lt hl) (AI b) (decide_eq_true hl) (by rw [hth]; exact fit _ (by omega)) (Ca (by omega)) (decide_eq_true (by omega)) (by unfold plM; rw [Ao (n:=n) (by omega) (by omega)]; exact fit _ (by omega)) (Ca (by omega))),Ax,Ao hl (by omega)]
  have hx:=RE n g b
  rw [show evV (evF n g (λ_=>false) b) = .agg [iV (thF n g b),iV (plM n g b (thF n g b)),iV (g b).src,iV (loF n g b),iV 0] by rw [BK hl]; rfl] at hx
  rw [hx,E0,Agl n g hl hn]
  have m1:=AcK (p:=obF g) hl hn
  have m2:=AcK (p:=mbF g) hl hn
  have m1:sel (ilt (ofNat (rN (obF g) n b)) (wr .i64 (Ae (thF n g b) 1))) (wr .i64 (Ae (thF n g b) 1)) (ofNat (rN (obF g) n b)) = ofNat (rN (obF g) n (b+1)):=m1
  have m2:sel (ilt (ofNat (rN (mbF g) n b)) (wr .i64 (Ae (loF n g b) 1))) (wr .i64 (Ae (loF n g b) 1)) (ofNat (rN (mbF g) n b)) = ofNat (rN (mbF g) n (b+1)):=m2
  rw [m1,m2]
  exact Y3 L a n f hn g e (b+1) (λ_=>.und) q (by omega) (by omega)
def slW (w4 w11 w14 w145 w146:V) (u:Nat->V):List V:=(jsV 164 0 u [(4,w4),(11,w11),(14,w14),(145,w145),(146,w146)])
def ON (n b:Nat) (g:Nat->E6) (j:Nat->V):List V:=(jsV 164 0 j [(4,(.ptr 0 0)),(11,(nV n)),(14,(.ptr 2 0)),(20,(nV b)),(145,(nV n)),(146,(nV b)),(147,(bV (ilt (ofNat b) (ofNat n)))),(148,(nV b)),(149,(.ptr 2 1)),(150,(.ref 3)),(151,(nV b)),(152,(nV n)),(153,(iV (wr .i64 (Ae (ofNat b) (ofNat n))))),(154,(iV (wr .i64 (A2 (wr .i64 (Ae (ofNat b) (ofNat n))) 1)))),(155,(nV n)),(156,(iV (Ab (wr .i64 (A2 (wr .i64 (Ae (ofNat b) (ofNat n))) 1)) (ofNat n)))),(157,(.ept 3 6 (toN (Ab (wr .i64 (A2 (wr .i64 (Ae (ofNat b) (ofNat n))) 1)) (ofNat n))) 0)),(158,(eV (g (toN (Ab (wr .i64 (A2 (wr .i64 (Ae (ofNat b) (ofNat n))) 1)) (ofNat n)))))),(159,(bV (Ar (g (toN (Ab (wr .i64 (A2 (wr .i64 (Ae (ofNat b) (ofNat n))) 1)) (ofNat n))))))),(160,(nV b))])
theorem Aa3 (n b:Nat) (g:Nat->E6) (j:Nat->V):(jsV 164 0 j [(4,(.ptr 0 0)),(11,(nV n)),(14,(.ptr 2 0)),(20,(nV b)),(145,(nV n)),(146,(nV b)),(147,(bV (ilt (ofNat b) (ofNat n)))),(148,(nV b)),(149,(.ptr 2 1)),(150,(.ref 3)),(151,(nV b)),(152,(nV n)),(153,(iV (wr .i64 (Ae (ofNat b) (ofNat n))))),(154,(iV (wr .i64 (A2 (wr .i64 (Ae (ofNat b) (ofNat n))) 1)))),(155,(nV n)),(156,(iV (Ab (wr .i64 (A2 (wr .i64 (Ae (ofNat b) (ofNat n))) 1)) (ofNat n)))),(157,(.ept 3 6 (toN (Ab (wr .i64 (A2 (wr .i64 (Ae (ofNat b) (ofNat n))) 1)) (ofNat n))) 0)),(158,(eV (g (toN (Ab (wr .i64 (A2 (wr .i64 (Ae (ofNat b) (ofNat n))) 1)) (ofNat n)))))),(159,(bV (Ar (g (toN (Ab (wr .i64 (A2 (wr .i64 (Ae (ofNat b) (ofNat n))) 1)) (ofNat n))))))),(160,(nV b))]) = ON n b g j:=rfl
theorem XL (n b:Nat) (g:Nat->E6) (j:Nat->V) (F:V->V):(ON n b g j).map F = slW (F (.ptr 0 0)) (F (nV n)) (F (.ptr 2 0)) (F (nV n)) (F (nV b)) (λi=>F (nth (ON n b g j) i)):=by kernel_rfl
def hpD (a:Int) (n:Nat) (f:Nat->E6) (g:Nat->E6) (tt:Int) (b:Nat):List Blk:=[c7Z,.row 44 6 n (λi=>eV (Bk n f i)),.cells [iV a,.ref 3,.ref 4,iV tt,iV (ofNat (kkN n g)),.ref 5,.jref 7],.row 44 6 n (λi=>eV (g i)),.row 40 5 n (λi=>evV (evF n g (dnF n g (Bx (mbF g) n) b 0) i)),.row 3 1 n (λi=>iV (rfF n g (dnF n g (Bx (mbF g) n) b 0) i)),jgZ,.jag (Jag.mk 25 1 (kkN n g) (λ_=>.nilS) 0 3 1 (λ_=>true) (lnP n g b 0) (λi k=>iV (coP n g b 0 i k)))]
theorem X3 (vs:List V) (st:St):Dp 55 vs st = KA tab (AS Gl TN JC) Try.f55 vs st:=by kernel_rfl
theorem SM {τ:List Ty} {Γ:Cx} {fn:Func} {vs:List V} {st:St} {p:V × List Blk} {t:List V} (h:(Ak τ Γ fn vs (st.h ++ [.saved st.t])).sem = some p) (hp:p.2[st.h.length]? = some (.saved t)) :
  (KA τ Γ fn vs st).sem = some (p.1,.all ⟨t,p.2.set st.h.length .dead⟩):=by
 unfold KA
 rw [Df,h]
 show (match p.2[st.h.length]? with | some (.saved t)=>T.leaf (p.1,Res.all ⟨t,p.2.set st.h.length .dead⟩) | _=>.fail).sem = _
 rw [hp]
 rfl
theorem AgM (a:Int) (n:Nat) (f:Nat->E6) (hn:n <= 16) (b:Nat) (g:Nat->E6) (tt:Int) (ts:List V) (hb:b < n) (hst:CI (mbF g) n b = true):∃ F,GJ F ∧
  (Dp 55 [.ptr 2 0,nV b] ⟨ts,(hpD a n f g tt b)⟩).sem = some (.tup [],.all ⟨ts.map F,(hpD a n f g tt (b+1)) ++ [Blk.dead]⟩):=by
 obtain ⟨l1,l2,l3,l4⟩:=EP hb hst
 have hL:=AL JC
 have h1:∃ F,GJ F ∧ (A9 (IJ (Bb JC)) (Ky a n (kkN n g) b (λi=>Bk n f i) g tt (λ_=>.nilS) (evF n g (dnF n g (Bx (mbF g) n) b 0)) (rfF n g (dnF n g (Bx (mbF g) n) b 0)) (lnP n g b 0) (coP n g b 0) ts) 17 (RQ a n (kkN n g) b (λi=>Bk n f i) g tt (λ_=>.nilS) (evF n g (dnF n g (Bx (mbF g) n) b 0)) (rfF n g (dnF n g (Bx (mbF g) n) b 0)) (lnP n g b 0) (coP n g b 0) ts 0 (loF n g b) (-1) 0 (evF n g (dnF n g (Bx (mbF g) n) b 0)) (rfF n g (dnF n g (Bx (mbF g) n) b 0)) (lnP n g b 0) (coP n g b 0) (Ag0 a n (kkN n g) b (λi=>Bk n f i) g tt (λ_=>.nilS) (evF n g (dnF n g (Bx (mbF g) n) b 0)) (rfF n g (dnF n g (Bx (mbF g) n) b 0)) (lnP n g b 0) (coP n g b 0) ts))).sem = _ :=
  AhZ (Bb JC) a n b (λi=>Bk n f i) g tt (λ_=>.nilS) (evF n g (dnF n g (Bx (mbF g) n) b 0)) (rfF n g (dnF n g (Bx (mbF g) n) b 0)) (lnP n g b 0) (coP n g b 0) ts hb hst (by omega) (Cn (mbF g) n b - 1) 0 ts _ 17 (by omega) (by omega)
 obtain ⟨F,hF,h1⟩:=h1
 refine ⟨F,hF,?_⟩
 have hin:Af (ile 0 (ofNat b)) (ilt (ofNat b) (ofNat n)) = true:=Aq hb
 have hlc:(evF n g (dnF n g (Bx (mbF g) n) b 0) b).loc = loF n g b:=by rw [BK hb]
 have hw:=AjJ (Bb JC) (isP (Bb JC) 0 (Tn a n (kkN n g) b (λi=>Bk n f i) g tt (λ_=>.nilS) (evF n g (dnF n g (Bx (mbF g) n) b 0)) (rfF n g (dnF n g (Bx (mbF g) n) b 0)) (lnP n g b 0) (coP n g b 0) (ts.map F) 0 0 0 0 (evF n g (dnF n g (Bx (mbF g) n) (b+1) 0)) (rfF n g (dnF n g (Bx (mbF g) n) (b+1) 0)) (lnP n g (b+1) 0) (coP n g (b+1) 0))) a n (kkN n g) b (λi=>Bk n f i) g tt (λ_=>.nilS) (evF n g (dnF n g (Bx (mbF g) n) b 0)) (rfF n g (dnF n g (Bx (mbF g) n) b 0)) (lnP n g b 0) (coP n g b 0) ts (ts.map F) 0 0 0 0 (evF n g (dnF n g (Bx (mbF g) n) (b+1) 0)) (rfF n g (dnF n g (Bx (mbF g) n) (b+1) 0)) (lnP n g (b+1) 0) (coP n g (b+1) 0) hin (decide_eq_true hb)
 rw [hlc] at hw
 have hw:=hw (Am h1)
 have e:=L7 (τ:=tab) (G:=Gl) (fn:=Try.f55) (CLe.refl (Ap TN)) (Ay (k:=0) hL hL) _ hw
 rw [X3]
 exact SM (st:=⟨ts,(hpD a n f g tt b)⟩) (Γ:=AS Gl TN JC) e rfl
theorem Y2 (L:LT) (a:Int) (n:Nat) (f:Nat->E6) (hn:n <= 16) (g:Nat->E6) (tt:Int) (hk:∃ k,k < n ∧ mbF g k = true):∀ (e b:Nat) (j:Nat->V) (q:Nat),n = b+e->e < q ->
  (A9 (Ho L) (JO a n f) q (Le a n f b (kkN n g) tt g (evF n g (dnF n g (Bx (mbF g) n) b 0)) (rfF n g (dnF n g (Bx (mbF g) n) b 0)) (lnP n g b 0) (coP n g b 0) j)).sem = some (Rl a n f n (kkN n g) tt g (evF n g (dnF n g (Bx (mbF g) n) n 0)) (rfF n g (dnF n g (Bx (mbF g) n) n 0)) (lnP n g n 0) (coP n g n 0))
 | 0,b,j,q+1,h,_=>by
  have:n = b:=by omega
  subst this
  rw [show Ho L = AF tab ⟨Dp,L,Gl⟩ (A1 Try.f14 6) 6 from rfl]
  exact Ad (Ain L a n f n _ _ g _ _ _ _ j (AD (Nat.le_refl _)))
 | e+1,b,j,q+1,h,h2=>by
  have hl:b < n:=by omega
  have hx:=J2 (a:=b) (n:=n) (by omega) (by omega)
  have hlt:(b+(n - 1)) % n < n:=Nat.mod_lt _ (by omega)
  have hin:Af (ile 0 (Ab (wr .i64 (A2 (wr .i64 (Ae (ofNat b) (ofNat n))) 1)) (ofNat n))) (ilt (Ab (wr .i64 (A2 (wr .i64 (Ae (ofNat b) (ofNat n))) 1)) (ofNat n)) (ofNat n)) = true:=by rw [hx]; exact Aq hlt
  have hnl:nlt (toN (Ab (wr .i64 (A2 (wr .i64 (Ae (ofNat b) (ofNat n))) 1)) (ofNat n))) n = true:=by rw [hx]; exact decide_eq_true hlt
  have next:=λj=>Y2 L a n f hn g tt hk e (b+1) j q (by omega) (by omega)
  cases hst:CI (mbF g) n b with
  | false =>
   have hm:Ar (g (toN (Ab (wr .i64 (A2 (wr .i64 (Ae (ofNat b) (ofNat n))) 1)) (ofNat n)))) = false:=by rw [hx]; exact hst
   rw [show Ho L = AF tab ⟨Dp,L,Gl⟩ (A1 Try.f14 6) 6 from rfl,Ad (Aim L a n f b (kkN n g) tt g (evF n g (dnF n g (Bx (mbF g) n) b 0)) (rfF n g (dnF n g (Bx (mbF g) n) b 0)) (lnP n g b 0) (coP n g b 0) j (ofNat_lt hl) (FS (by omega)) hin hnl hm),Ax,Ao hl (by omega)]
   have hd:dnF n g (Bx (mbF g) n) b 0 = dnF n g (Bx (mbF g) n) (b+1) 0:=by
    funext i
    unfold dnF
    by_cases hi:i < n
    ·rw [Xp hi hk hst]
    ·rw [decide_eq_false hi]; rfl
   rw [hd,S9 hst,Aab (S9 hst)]
   exact next (λ_=>.und)
  | true =>
   have hm:Ar (g (toN (Ab (wr .i64 (A2 (wr .i64 (Ae (ofNat b) (ofNat n))) 1)) (ofNat n)))) = true:=by rw [hx]; exact hst
   obtain ⟨F,hF,hc⟩:=AgM a n f hn b g tt (ON n b g j) hl hst
   have hts:(ON n b g j).map F = TU n b (λi=>F (nth (ON n b g j) i)):=by
    have:(ON n b g j).map F = slW (F (.ptr 0 0)) (F (nV n)) (F (.ptr 2 0)) (F (nV n)) (F (nV b)) (λi=>F (nth (ON n b g j) i)):=XL n b g j F
    rw [this,hF.2 0 0 (by omega),hF.2 2 0 (by omega)]
    unfold nV iV
    rw [hF.1,hF.1]
    rfl
   rw [hts] at hc
   have hr:=λq55=>Ail Ab6 a n f b (kkN n g) tt g (evF n g (dnF n g (Bx (mbF g) n) b 0)) (rfF n g (dnF n g (Bx (mbF g) n) b 0)) (lnP n g b 0) (coP n g b 0) (λi=>F (nth (ON n b g j) i)) (evF n g (dnF n g (Bx (mbF g) n) (b+1) 0)) (rfF n g (dnF n g (Bx (mbF g) n) (b+1) 0)) (lnP n g (b+1) 0) (coP n g (b+1) 0) q55 j (ofNat_lt hl) (FS (by omega)) hin hnl hm
   rw [Aa3] at hr
   have hr:=hr (isC Dp 55 (.tup [],.all ⟨TU n b (λi=>F (nth (ON n b g j) i)),(hpD a n f g tt (b+1)) ++ [Blk.dead]⟩)) (SL hc)
   have hr':=Du (f':=Ho L) (l:=JO a n f) (L8 (τ:=tab) (G:=Gl) (YN (CLe.refl Dp)) (VD L) (A1 Try.f14 6) 6 (Le a n f b (kkN n g) tt g (evF n g (dnF n g (Bx (mbF g) n) b 0)) (rfF n g (dnF n g (Bx (mbF g) n) b 0)) (lnP n g b 0) (coP n g b 0) j)) hr
   rw [Ad hr',Ax,Ao hl (by omega)]
   exact next (λ_=>.und)
def ttN (n:Nat) (g:Nat->E6):Nat:=Aj (obF g) n
def Qs (a:Int) (n:Nat) (g:Nat->E6):V:=.agg [iV a,.ref 0,.ref 1,iV (ofNat (ttN n g)),iV (ofNat (kkN n g)),.ref 2,.jref 3]
def Qt (n:Nat) (g:Nat->E6):List Blk:=[.row 44 6 n (λi=>eV (g i)),.row 40 5 n (λi=>evV (evF n g (λ_=>true) i)),.row 3 1 n (λi=>iV (rfF n g (λ_=>true) i)),
 .jag ⟨25,1,kkN n g,λ_=>.und,0,3,1,λ_=>true,lnN (mbF g) (wrF g) n,λk i=>iV (ofNat (coN (mbF g) (wrF g) n k i))⟩]
def noV:V:=.agg [iV 0,.ref 0,.ref 1,iV 0,iV 0,.ref 2,.jref 3]
def noH:List Blk:=[.row 44 6 0 (λ_=>.und),.row 40 5 0 (λ_=>.und),.row 3 1 0 (λ_=>.und),.jag ⟨25,1,0,λ_=>.und,0,3,1,λ_=>true,λ_=>0,λ_ _=>.und⟩]
def ofT:List V->T (V × List Blk)
 | [.val (.int .i64 a),v]=>apL v λn f=>.br (AN n) (.br (ieq (BR a n f) 0) (.leaf (.tup [Qs a n (shG n f),iV 0,iV 0],Qt n (shG n f))) (.leaf (.tup [noV,iV (BR a n f),iV (LH a n f)],noH))) .fail
 | _=>.fail
theorem IY {n i:Nat} {f:Nat->E6} (h:i < n):shG n f i = Bk n f ((shQ n f+i) % n):=by
 unfold shG AgH
 rw [decide_eq_true h]
 rfl
theorem OX {a:Int} {n:Nat} {f g:Nat->E6} (h:IsCycle a n f) (he:∀ i,i < n->g i = f i):IsCycle a n g:=by
 have c1:∀ (p:E6->Bool) k,k <= n->Aj (λi=>p (g i)) k = Aj (λi=>p (f i)) k:=λp k hk=>E9 λi hi=>by rw [he i (by omega)]
 have c2:∀ (p:E6->Bool) i,i < n->Av (λk=>p (g k)) n i = Av (λk=>p (f k)) n i:=λp i hi=>by
  rw [F0 hi,F0 hi]
  unfold Bc
  rw [c1 p i (by omega),c1 p n (Nat.le_refl _)]
 have hlo:=h.lo
 refine ⟨h.arch,h.lo,h.hi,λi hi=>?_,λi hi=>?_,?_,?_,λi hi=>?_,λi hi=>?_⟩
 ·have:=h.legal i hi
  unfold C2 at this ⊢
  rw [he i hi]
  exact this
 ·have:=h.meets i hi
  unfold Fr at this ⊢
  rw [he i hi,he _ (Nat.mod_lt _ (by omega))]
  exact this
 ·rw [c1 As n (Nat.le_refl _)]; exact h.outer
 ·rw [c1 Ar n (Nat.le_refl _)]; exact h.moves
 ·have:=h.writes i hi
  unfold AG Em at this ⊢
  have e:(λi=>isW (g i)) i = (λi=>isW (f i)) i:=by show isW (g i) = isW (f i); rw [he i hi]
  rw [e,c2 Ar i hi,E9 (q:=Co (Av (λk=>Ar (f k)) n) (λi=>isW (f i)) (Av (λk=>Ar (f k)) n i)) λk hk=>by
   unfold Co
   rw [c2 Ar k hk]
   show Af _ (isW (g k)) = Af _ (isW (f k))
   rw [he k hk]]
  exact this
 ·have:=h.crowd i hi
  unfold AG Em at this ⊢
  rw [c2 As i hi,E9 (q:=Co (Av (λk=>As (f k)) n) (λ_=>true) (Av (λk=>As (f k)) n i)) λk hk=>by
   unfold Co
   rw [c2 As k hk]]
  exact this
theorem Hk {p:Nat->Bool}:∀ {n:Nat},0 < Aj p n->∃ k,k < n ∧ p k = true
 | 0,h=>by simp [Aj] at h
 | n+1,h=>by
  cases hp:p n with
  | true=>exact ⟨n,Nat.lt_succ_self n,hp⟩
  | false =>
   rw [Br hp] at h
   obtain ⟨k,h1,h2⟩:=Hk h
   exact ⟨k,by omega,h2⟩
theorem LF {a:Int} {n:Nat} {f:Nat->E6} (h:IsCycle a n f):IsCycle a n (λi=>Bk n f i):=by
 have h1:=Jo n (λi=>Bw (f i))
 have h2:=h.lo
 exact h.turned (show BX n (λi=>Bw (f i)) < n by omega)
theorem Lg {a:Int} {n:Nat} {f:Nat->E6} (h:IsCycle a n f):E2 (λi=>As (Bk n f i)) n < n ∧ As (Bk n f (E2 (λi=>As (Bk n f i)) n)) = true ∧ (∀ i,i < E2 (λi=>As (Bk n f i)) n->As (Bk n f i) = false) ∧ shQ n f < n:=by
 have h2:=h.lo
 have h3:=(LF h).outer
 obtain ⟨k,h4,h5⟩:=Hk (p:=λi=>As (Bk n f i)) (n:=n) (by omega)
 obtain ⟨h6,h7,h8⟩:=E1 (p:=λi=>As (Bk n f i)) h4 h5
 exact ⟨by omega,h7,h8,Nat.mod_lt _ (by omega)⟩
theorem Ew {a:Int} {n:Nat} {f:Nat->E6} (h:IsCycle a n f):IsCycle a n (shG n f) :=
 OX ((LF h).turned (Lg h).2.2.2) λi hi=>IY hi
theorem RU {a:Int} {n:Nat} {f:Nat->E6} (h:IsCycle a n f):obF (shG n f) (n - 1) = true:=by
 obtain ⟨h1,h2,h3,h4⟩:=Lg h
 have hlo:=h.lo
 unfold obF
 rw [IY (by omega)]
 have:(shQ n f+(n - 1)) % n = E2 (λi=>As (Bk n f i)) n:=by
  unfold shQ
  rw [Nat.mod_add_mod,show E2 (λi=>As (Bk n f i)) n+1+(n - 1) = E2 (λi=>As (Bk n f i)) n+n by omega,Nat.add_mod_right,Nat.mod_eq_of_lt h1]
 rw [this]
 exact h2
theorem Q4 {p:Nat->Bool} {n:Nat} (h:2 <= Aj p n):rN p n n = Aj p n:=by
 have hn:0 < n:=by
  rcases Nat.eq_zero_or_pos n with h0 | h0
  ·subst h0; simp [Aj] at h
  ·exact h0
 have h1:=YI p n (n - 1) (by omega)
 rw [show n - 1+1 = n by omega] at h1
 rw [h1]
 have h2:=LG p (n - 1)
 rw [show n - 1+1 = n by omega] at h2
 split <;> omega
theorem S7 {Γ:Cx} {zs:List (Nat × List (Nat × V))} {loops:List (Nat × Lp)} (h:Γ.loop = C8 zs loops):BO Γ:=λid f st r hr=>by
 rw [h] at hr
 have by':∀ st,(Bb loops id f st).sem = some r->∃ l m,(A9 f l m st).sem = some r:=λst hr=>by
  unfold Bb at hr
  split at hr
  ·exact ⟨_,_,hr⟩
  ·cases hr
 unfold C8 at hr
 split at hr
 ·obtain ⟨l,m,h1⟩:=by' _ hr
  exact ⟨_,l,m,RA _ _,h1⟩
 ·obtain ⟨l,m,h1⟩:=by' _ hr
  exact ⟨_,l,m,LE.refl _,h1⟩
def AgT:List (Nat × List (Nat × V)):=[(2,[(3,eV zE)]),(4,[(4,evV ⟨0,0,0,0,0⟩),(5,iV (-1))]),(6,[(7,iV 0)])]
def AcN (a:Int) (n:Nat) (f:Nat->E6):List (Nat × Lp):=[(0,Za a n f),(2,NS a n f),(4,NR a n f),(6,JO a n f)]
noncomputable def Xu (a:Int) (n:Nat) (f:Nat->E6):Cx:=⟨Dp,C8 AgT (AcN a n f),Gl⟩
theorem ZB (a:Int) (n:Nat) (f:Nat->E6) (z:Nat) (j:Nat->V):CS (JJ a n f z 0 (λ_=>.und) j) [(3,eV zE)] = JJ a n f z 0 (λ_=>eV zE) j:=by kernel_rfl
theorem ZA (a:Int) (n:Nat) (f:Nat->E6) (z:Nat) (g:Nat->E6):CS (MR a n f z g) [(4,evV ⟨0,0,0,0,0⟩),(5,iV (-1))] = Qq a n f 0 0 0 0 g (thF n g) (loF n g) (λ_=>-1) (λ_=>evV ⟨0,0,0,0,0⟩) (λ_=>0) (λi=>nth (MR a n f z g).t i):=by kernel_rfl
theorem Z9 (a:Int) (n:Nat) (f:Nat->E6) (q m kk:Nat) (tt:Int) (g:Nat->E6) (th lo r:Nat->Int) (x:Nat->Ev5) (pl:Int->Int):CS (MQ a n f q m kk tt g th lo r x pl) [(7,iV 0)] = Le a n f 0 kk tt g x r (λ_=>0) (λ_ _=>0) (λi=>nth (MQ a n f q m kk tt g th lo r x pl).t i):=by kernel_rfl
theorem AhK (G:Nat->E6):upE 0 G = λ_=>zE:=by funext i; simp [upE]
theorem Ac3 (n:Nat) (g:Nat->E6):upX n g 0 = λ_=>⟨0,0,0,0,0⟩:=by funext i; simp [upX]
theorem Aje (n:Nat) (g:Nat->E6):plM n g 0 = λ_=>0:=rfl
theorem ZO (n:Nat) (g:Nat->E6):dnF n g (Bx (mbF g) n) 0 0 = λ_=>false:=by
 funext j
 unfold dnF
 rw [ZN]
 simp
theorem Vd (n:Nat) (g:Nat->E6):upX n g n = evF n g (dnF n g (Bx (mbF g) n) 0 0):=by
 rw [ZO]
 funext i
 unfold upX
 by_cases hi:i < n
 ·rw [decide_eq_true hi]; rfl
 ·rw [decide_eq_false hi]
  unfold evF
  rw [decide_eq_false hi]
  rfl
theorem Ai1 (n:Nat) (g:Nat->E6):rfF n g (dnF n g (Bx (mbF g) n) 0 0) = λ_=>-1:=by
 rw [ZO]
 rfl
def AiR (n:Nat) (g:Nat->E6):List Blk:=[.row 44 6 n (λi=>eV (g i)),.row 40 5 n (λi=>evV (evF n g (dnF n g (Bx (mbF g) n) n 0) i)),.row 3 1 n (λi=>iV (rfF n g (dnF n g (Bx (mbF g) n) n 0) i)),
 .jag ⟨25,1,kkN n g,λ_=>.nilS,0,3,1,λ_=>true,lnP n g n 0,λk i=>iV (coP n g n 0 k i)⟩]
theorem Agd {n:Nat} {g:Nat->E6} (hk:0 < kkN n g):AC (AiR n g) (Qt n g):=by
 have hn:0 < n:=by
  rcases Nat.eq_zero_or_pos n with h0 | h0
  ·subst h0; simp [kkN,Aj] at hk
  ·exact h0
 obtain ⟨k0,hk0,hm⟩:=Hk hk
 have hd:∀ i,i < n->dnF n g (Bx (mbF g) n) n 0 i = true:=λi hi=>by
  unfold dnF
  rw [decide_eq_true hi,To]
  ·rfl
  ·exact G9 hn
 refine .cons (λ_ _=>rfl) (.cons (λi hi=>?_) (.cons (λi hi=>?_) (.consB (.jag (λ_ _=>.inr rfl) (λ_ _=>rfl) (λk hk'=>?_) (λk hk' q hq=>?_)) (.refl []))))
 ·rw [BK hi,BK hi,hd i hi]
 ·unfold rfF
  rw [hd i hi]
 ·have hk':k < kkN n g:=hk'
  have:=(GM hk').1
  show lnN _ _ n k = lnP n g n 0 k
  unfold lnP
  rw [if_pos hk',if_pos this]
 ·have hk':k < kkN n g:=hk'
  have hq:q < lnP n g n 0 k:=hq
  show iV _ = iV _
  unfold coP
  rw [if_pos hq]
theorem Aen {a:Int} {n:Nat} {f:Nat->E6} (h8:AN n = true) (hc:ieq (BR a n f) 0 = true) :
  (Az (Ak tab (Xu a n f) Try.f14 [iV a,A4 n f] [])).sem = some (.tup [Qs a n (shG n f),iV 0,iV 0],AiR n (shG n f)):=by
 have hy:=E7 hc
 have hlo:=hy.lo
 have hhi:=hy.hi
 have hL:=DU AgT (AcN a n f)
 obtain ⟨z1,z2,z3,z4⟩:=Lg hy
 have hg:=Ew hy
 have hko:rN (obF (shG n f)) n n = ttN n (shG n f):=Q4 hg.outer
 have hkm:rN (mbF (shG n f)) n n = kkN n (shG n f):=Q4 hg.moves
 have hkl:kkN n (shG n f) <= n:=AX _ _
 have c1:Af (ilt 0 (ofNat n)) (Af (CR n) (BI 8 (ofNat n) (ofNat n))) = true:=by
  unfold Af ilt CR BI
  simp only [Int.ofNat_eq_natCast,Bool.and_eq_true,decide_eq_true_eq]
  omega
 have c2:BI 24 (ofNat (kkN n (shG n f))) (ofNat (kkN n (shG n f))) = true:=by
  unfold BI
  simp only [Int.ofNat_eq_natCast,Bool.and_eq_true,decide_eq_true_eq]
  omega
 have hm:∃ k,k < n ∧ mbF (shG n f) k = true:=Hk (p:=mbF (shG n f)) (by have:=hg.moves; show 0 < Aj (λk=>Ar (shG n f k)) n; omega)
 unfold Xu
 refine A7 (Ay (Ay (Ay (Ay hL hL) hL) hL) hL) _ (Akt _ _ _ _ _ a n f (shQ n f) n (kkN n (shG n f)) (ofNat (ttN n (shG n f))) (shG n f) (thF n (shG n f)) (loF n (shG n f)) (λ_=>-1) (upX n (shG n f) n) (plM n (shG n f) n)
  (evF n (shG n f) (dnF n (shG n f) (Bx (mbF (shG n f)) n) n 0)) (rfF n (shG n f) (dnF n (shG n f) (Bx (mbF (shG n f)) n) n 0)) (lnP n (shG n f) n 0) (coP n (shG n f) n 0) h8 hc hy.may c1 Ce c2 (Am ?_) (Am ?_) (Am ?_) (Am ?_))
 ·show (A9 _ (Za a n f) (n+1) _).sem = _
  exact AcC _ a n f (by omega) _ z1 z2 z3 _ 0 _ (n+1) (Nat.zero_add _).symm (by omega)
 ·show (A9 _ (NS a n f) (n+1) (CS _ [(3,eV zE)])).sem = _
  rw [ZB]
  have h:=λL j=>Y4 L a n f hhi (shQ n f) z4 n 0 j (n+1) (by omega) (by omega)
  rw [AhK] at h
  exact h _ _
 ·show (A9 _ (NR a n f) (n+1) (CS _ [(4,evV ⟨0,0,0,0,0⟩),(5,iV (-1))])).sem = _
  rw [ZA]
  have h:=λL j=>Y3 L a n f hhi (shG n f) n 0 j (n+1) (by omega) (by omega)
  rw [Ac3,Aje,hko,hkm] at h
  exact h _ _
 ·show (A9 _ (JO a n f) (n+1) (CS _ [(7,iV 0)])).sem = _
  rw [Z9]
  have h:=λL j=>Y2 L a n f hhi (shG n f) (ofNat (ttN n (shG n f))) hm n 0 j (n+1) (by omega) (by omega)
  rw [<- Vd,Ai1,AcP,AjC] at h
  exact h _ _
theorem p14:A6 Try.prog Gl 14 ofT:=by
 refine A5 AO AP Try.func14 (by kernel_rfl) (by kernel_rfl) λvs v h' h=>?_
 unfold ofT at h
 split at h
 ·rename_i a u
  obtain ⟨n,f,ha,h1⟩:=Cj h
  obtain ⟨h8,hq⟩:=Ag h1
  have hA:BJ [iV a,u] [iV a,A4 n f]:=λS w cs hv=>by
   obtain ⟨c,l,rfl,q1,d,l',rfl,q2,q3⟩:=hv
   exact ⟨c,_,rfl,q1,d,l',rfl,ha S w d q2,q3⟩
  have hx:Bj Try.prog (Xu a n f).base ∧ BO (Xu a n f):=⟨X2,S7 rfl⟩
  cases hc:ieq (BR a n f) 0 with
  | true =>
   rw [hc] at hq
   have:=Ac hq
   simp only [Prod.mk.injEq] at this
   obtain ⟨rfl,rfl⟩:=this
   have hg:=Ew (E7 hc)
   have hm:=hg.moves
   exact ⟨_,Xu a n f,_,hA,rfl,hx.1,hx.2,Aen h8 hc,Agd (by show 0 < Aj (λk=>Ar (shG n f k)) n; omega)⟩
  | false =>
   rw [hc] at hq
   have:=Ac hq
   simp only [Prod.mk.injEq] at this
   obtain ⟨rfl,rfl⟩:=this
   exact ⟨_,Xu a n f,_,hA,rfl,hx.1,hx.2,Aku _ a n f h8 hc,AC.refl _⟩
 ·cases h
end Go.Proofs.Ytjhnfomefcngfaa.Sh
