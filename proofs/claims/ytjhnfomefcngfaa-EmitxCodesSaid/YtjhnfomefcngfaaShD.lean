/-
  Layer 7: the program's shape of a cycle. No conditions.
-/
import Derived.Test.YtjhnfomefcngfaaCyT
import Derived.Test.YtjhnfomefcngfaaCyU
namespace Go.Proofs.Ytjhnfomefcngfaa.Sh
open Go.Sy Ed
open Int (ofNat)
set_option maxHeartbeats 1000000
set_option maxRecDepth 4000
noncomputable def Aj8:List (Nat × (List V->T (V × List Blk))):=[(50,Yb),(51,OF),(52,BO λe=>bV (Ax e)),(53,AhL),(54,BO λe=>bV (Aw e))]
theorem Acb:AA Try.prog Gl Aj8:=.cons p48 <| .cons p65 <| .cons p52 <| .cons p53 <| .cons p54 .nil
def Jp:List (Nat × Lp):=[(0,⟨(bmK 84 0 [0,1,4,5,6,7,23,24]),9,bmK 84 0 [],9,17⟩)]
noncomputable def Dp:FuncId->List V->St->T (V × Res):=KS [(55,Kz tab (AI Gl tb55 Jp) Try.f55)] (Am Aj8)
theorem Yf:Bk Try.prog ⟨Dp,Gl⟩:=GL AN (.cons rfl AL (AO tb55_ok Jp).1 (AO tb55_ok Jp).2 Try.func55 (by kernel_rfl) (by kernel_rfl) .nil) (DW rfl Acb)
theorem AmP (L:LT) (a:Int) (n:Nat) (f:Nat->E6) (h0:Bj n = true) (h1:ieq (CV a n f) 0 = false):(Ar (Ai tab ⟨Dp,L,Gl⟩ Try.f14 [iV a,.sl 6 n λi=>eV (f i)] [])).sem = some ((.tup [(.agg [(iV 0),(.ref 0),(.ref 1),(iV 0),(iV 0),(.ref 2),(.jref 3)]),(iV (CV a n f)),(iV (OE a n f))]),[(.row 44 6 0 (λ_=>.und)),(.row 40 5 0 (λ_=>.und)),r3Z,jgZ]):=by
 exact Aa (ks:=[kL n,kn h0,kN (kn h1)]) (by kernel_rfl)
def ZL (a:Int) (n:Nat) (f:Nat->E6):Lp:=⟨(bmK 164 0 [0,4,5,6,9,11,12,39,40]),2,bmK 164 0 [0,4,5,6,9,11,12],2,n+1⟩
def Aci (a:Int) (n:Nat) (f:Nat->E6) (b:Nat) (j:Nat->V):St:=⟨(jsV 164 0 j [(0,iV a),(4,.ptr 0 0),(5,iV 0),(6,iV 0),(9,.ref 1),(11,nV n),(12,iV 0),(39,nV n),(40,nV b)]),[c7Z,.row 44 6 n (λi=>eV (B4 n f i))]⟩
def PW (a:Int) (n:Nat) (f:Nat->E6) (b:Nat):Ex × St:=(.ex 0,⟨(jsV 164 0 (λ_=>.und) [(0,iV a),(4,.ptr 0 0),(5,iV 0),(6,iV 0),(9,.ref 1),(11,nV n),(12,nV b)]),[c7Z,.row 44 6 n (λi=>eV (B4 n f i))]⟩)
noncomputable def RC (L:LT):St->T (Ex × St):=λst=>AC tab ⟨Dp,L,Gl⟩ (Au Try.f14 0) 0 st
section
variable (L:LT) (a:Int) (n:Nat) (f:Nat->E6) (b:Nat)  (j:Nat->V)
include L a n f b j
theorem Ak3 (h0:ilt (ofNat b) (ofNat n) = true) (h13:ile 0 (ofNat b) = true) (h1:nlt b n = true) (h2:Ax (B4 n f b) = false):Ah (RC L) (ZL a n f) (Aci a n f b j) = some (.nm,⟨(jsV 164 0 (λ_=>.und) [(0,(iV a)),(4,(.ptr 0 0)),(5,(iV 0)),(6,(iV 0)),(9,(.ref 1)),(11,(nV n)),(12,(iV 0)),(39,(nV n)),(40,(iV (wr .i64 (Af (ofNat b) 1))))]),[c7Z,(.row 44 6 n (λi=>(eV (B4 n f i))))]⟩):=by
 exact Aa (ks:=[kn h0,kA (kn h13) (kn h0),kn h1,kn h2]) (by kernel_rfl)
theorem Ak2 (h0:ilt (ofNat b) (ofNat n) = true) (h14:ile 0 (ofNat b) = true) (h1:nlt b n = true) (h2:Ax (B4 n f b) = true) (h3:ieq (ofNat n) 0 = false):Ah (RC L) (ZL a n f) (Aci a n f b j) = some ((.ex 0),⟨(jsV 164 0 (λ_=>.und) [(0,(iV a)),(4,(.ptr 0 0)),(5,(iV 0)),(6,(iV 0)),(9,(.ref 1)),(11,(nV n)),(12,(iV (Ae (wr .i64 (Af (ofNat b) 1)) (ofNat n))))]),[c7Z,(.row 44 6 n (λi=>(eV (B4 n f i))))]⟩):=by
 exact Aa (ks:=[kn h0,kA (kn h14) (kn h0),kn h1,kn h2,kn h3]) (by kernel_rfl)
end
def An0 (a:Int) (n:Nat) (f:Nat->E6) :Nat->V:=lkV A9 [(1,(.sl 6 n (λi=>eV (f i)))),(7,(iV (CV a n f))),(8,(iV (OE a n f))),(10,(iV 0)),(21,(.tup [iV (CV a n f),iV (OE a n f)])),(22,(iV a)),(23,(.sl 6 n (λi=>eV (f i)))),(24,(.tup [iV (CV a n f),iV (OE a n f)])),(25,(iV (CV a n f))),(26,(iV (OE a n f))),(27,(iV (CV a n f))),(28,(bV (AG (ieq (CV a n f) 0)))),(32,(.tup [.ref 1,iV 0])),(33,(.sl 6 n (λi=>eV (f i)))),(34,(.tup [.ref 1,iV 0])),(35,(.ref 1)),(36,(iV 0)),(37,(.ref 1)),(38,(nV n))]
def Oc (a:Int) (n:Nat) (f:Nat->E6):Lp:=⟨(bmK 164 0 [0,4,5,6,9,11,12,14,55,56]),7,bmK 164 0 [0,4,5,6,11,14],7,n+1⟩
def Lt (a:Int) (n:Nat) (f:Nat->E6) (q b:Nat) (y:Nat->V) (j:Nat->V):St:=⟨(jsV 164 0 j [(0,iV a),(4,.ptr 0 0),(5,iV 0),(6,iV 0),(9,.ref 1),(11,nV n),(12,nV q),(14,.ptr 2 0),(55,nV n),(56,nV b)]),[c7Z,.row 44 6 n (λi=>eV (B4 n f i)),.cells [iV a,.ref 3,.ref 4,iV 0,iV 0,.ref 5,.jref 6],.row 44 6 b y,.row 40 5 0 (λ_=>.und),r3Z,jgZ]⟩
def IV (a:Int) (n:Nat) (f:Nat->E6) (q b:Nat) (y:Nat->V):Ex × St:=(.ex 2,⟨(jsV 164 0 (λ_=>.und) [(0,iV a),(4,.ptr 0 0),(5,iV 0),(6,iV 0),(11,nV n),(14,.ptr 2 0)]),[c7Z,.row 44 6 n (λi=>eV (B4 n f i)),.cells [iV a,.ref 3,.ref 4,iV 0,iV 0,.ref 5,.jref 6],.row 44 6 b y,.row 40 5 0 (λ_=>.und),r3Z,jgZ]⟩)
noncomputable def La (L:LT):St->T (Ex × St):=λst=>AC tab ⟨Dp,L,Gl⟩ (Au Try.f14 2) 2 st
section
variable (L:LT) (a:Int) (n:Nat) (f:Nat->E6) (q b:Nat) (y:Nat->V)  (j:Nat->V)
include L a n f q b y j
theorem Akz (h0:ilt (ofNat b) (ofNat n) = false):Ah (La L) (Oc a n f) (Lt a n f q b y j) = some ((.ex 2),⟨(jsV 164 0 (λ_=>.und) [(0,(iV a)),(4,(.ptr 0 0)),(5,(iV 0)),(6,(iV 0)),(11,(nV n)),(14,(.ptr 2 0))]),[c7Z,(.row 44 6 n (λi=>(eV (B4 n f i)))),(.cells [(iV a),(.ref 3),(.ref 4),(iV 0),(iV 0),(.ref 5),(.jref 6)]),(.row 44 6 b y),(.row 40 5 0 (λ_=>.und)),r3Z,jgZ]⟩):=by
 exact Aa (ks:=[kn h0]) (by kernel_rfl)
theorem Aky (h0:ilt (ofNat b) (ofNat n) = true) (h1:ieq (ofNat n) 0 = false) (h13:Ak (ile 0 (Ae (wr .i64 (Af (ofNat q) (ofNat b))) (ofNat n))) (ilt (Ae (wr .i64 (Af (ofNat q) (ofNat b))) (ofNat n)) (ofNat n)) = true) (h14:nlt (toN (Ae (wr .i64 (Af (ofNat q) (ofNat b))) (ofNat n))) n = true) (h15:AY b 1 40 = true):Ah (La L) (Oc a n f) (Lt a n f q b y j) = some (.nm,⟨(jsV 164 0 (λ_=>.und) [(0,(iV a)),(4,(.ptr 0 0)),(5,(iV 0)),(6,(iV 0)),(9,(.ref 1)),(11,(nV n)),(12,(nV q)),(14,(.ptr 2 0)),(55,(nV n)),(56,(iV (wr .i64 (Af (ofNat b) 1))))]),[c7Z,(.row 44 6 n (λi=>(eV (B4 n f i)))),(.cells [(iV a),(.ref 3),(.ref 4),(iV 0),(iV 0),(.ref 5),(.jref 6)]),(.row 44 6 (AQ b 1) (A1 b y (eV (B4 n f (toN (Ae (wr .i64 (Af (ofNat q) (ofNat b))) (ofNat n))))))),(.row 40 5 0 (λ_=>.und)),r3Z,jgZ]⟩):=by
 exact Aa (ks:=[kn h0,kn h1,kn h13,kn h14,kn h15]) (by kernel_rfl)
end
def AhS (a:Int) (n:Nat) (f:Nat->E6) (q:Nat):Nat->V:=lkV A9 [(1,.und),(2,.und),(3,.und),(7,.und),(8,.und),(10,.und),(13,.und),(15,.und),(16,.und),(17,.und),(18,.und),(19,.und),(20,.und),(21,.und),(22,.und),(23,.und),(24,.und),(25,.und),(26,.und),(27,.und),(28,.und),(29,.und),(30,.und),(31,.und),(32,.und),(33,.und),(34,.und),(35,.und),(36,.und),(37,.und),(38,.und),(39,.und),(40,.und),(41,.und),(42,.und),(43,.und),(44,.und),(45,.und),(46,.und),(47,.und),(48,.und),(49,.und),(50,.und),(51,.und),(52,.und),(53,(iV a)),(54,(.agg [iV a,.nilS,.nilS,iV 0,iV 0,.nilS,.nilS])),(57,.und),(58,.und),(59,.und),(60,.und),(61,.und),(62,.und),(63,.und),(64,.und),(65,.und),(66,.und),(67,.und),(68,.und),(69,.und),(70,.und),(71,.und),(72,.und),(73,.und),(74,.und),(75,.und),(76,.und),(77,.und),(78,.und),(79,.und),(80,.und),(81,.und),(82,.und),(83,.und),(84,.und),(85,.und),(86,.und),(87,.und),(88,.und),(89,.und),(90,.und),(91,.und),(92,.und),(93,.und),(94,.und),(95,.und),(96,.und),(97,.und),(98,.und),(99,.und),(100,.und),(101,.und),(102,.und),(103,.und),(104,.und),(105,.und),(106,.und),(107,.und),(108,.und),(109,.und),(110,.und),(111,.und),(112,.und),(113,.und),(114,.und),(115,.und),(116,.und),(117,.und),(118,.und),(119,.und),(120,.und),(121,.und),(122,.und),(123,.und),(124,.und),(125,.und),(126,.und),(127,.und),(128,.und),(129,.und),(130,.und),(131,.und),(132,.und),(133,.und),(134,.und),(135,.und),(136,.und),(137,.und),(138,.und),(139,.und),(140,.und),(141,.und),(142,.und),(143,.und),(144,.und),(145,.und),(146,.und),(147,.und),(148,.und),(149,.und),(150,.und),(151,.und),(152,.und),(153,.und),(154,.und),(155,.und),(156,.und),(157,.und),(158,.und),(159,.und),(160,.und),(161,.und),(162,.und),(163,.und)]
def Ob (a:Int) (n:Nat) (f:Nat->E6):Lp:=⟨(bmK 164 0 [0,4,5,6,11,14,16,17,18,80,81]),10,bmK 164 0 [4,5,6,11,14],7,n+1⟩
def Q1 (a:Int) (n:Nat) (f:Nat->E6) (b m:Nat) (tt kk:Int) (g:Nat->E6) (th lo r:Nat->Int) (x:Nat->V) (pl:Int->Int) (j:Nat->V):St:=⟨(jsV 164 0 j [(0,iV a),(4,.ptr 0 0),(5,iV 0),(6,iV 0),(11,nV n),(14,.ptr 2 0),(16,.ref 7),(17,.ref 8),(18,.ref 9),(80,nV n),(81,nV b)]),[c7Z,.row 44 6 n (λi=>eV (B4 n f i)),.cells [iV a,.ref 3,.ref 4,iV tt,iV kk,.ref 5,.jref 6],.row 44 6 n (λi=>eV (g i)),.row 40 5 b x,.row 3 1 b (λi=>iV (r i)),jgZ,.row 3 1 n (λk=>iV (th k)),.row 3 1 n (λk=>iV (lo k)),.imap 76 m pl]⟩
def IU (a:Int) (n:Nat) (f:Nat->E6) (b m:Nat) (tt kk:Int) (g:Nat->E6) (th lo r:Nat->Int) (x:Nat->V) (pl:Int->Int):Ex × St:=(.ex 4,⟨(jsV 164 0 (λ_=>.und) [(4,.ptr 0 0),(5,iV 0),(6,iV 0),(11,nV n),(14,.ptr 2 0)]),[c7Z,.row 44 6 n (λi=>eV (B4 n f i)),.cells [iV a,.ref 3,.ref 4,iV tt,iV kk,.ref 5,.jref 6],.row 44 6 n (λi=>eV (g i)),.row 40 5 b x,.row 3 1 b (λi=>iV (r i)),jgZ]⟩)
noncomputable def KZ (L:LT):St->T (Ex × St):=λst=>AC tab ⟨Dp,L,Gl⟩ (Au Try.f14 4) 4 st
section
variable (L:LT) (a:Int) (n:Nat) (f:Nat->E6) (b m:Nat) (tt kk:Int) (g:Nat->E6) (th lo r:Nat->Int) (x:Nat->V) (pl:Int->Int)  (j:Nat->V)
include L a n f b m tt kk g th lo r x pl j
theorem Akx (h0:ilt (ofNat b) (ofNat n) = false):Ah (KZ L) (Ob a n f) (Q1 a n f b m tt kk g th lo r x pl j) = some ((.ex 4),⟨(jsV 164 0 (λ_=>.und) [(4,(.ptr 0 0)),(5,(iV 0)),(6,(iV 0)),(11,(nV n)),(14,(.ptr 2 0))]),[c7Z,(.row 44 6 n (λi=>(eV (B4 n f i)))),(.cells [(iV a),(.ref 3),(.ref 4),(iV tt),(iV kk),(.ref 5),(.jref 6)]),(.row 44 6 n (λi=>(eV (g i)))),(.row 40 5 b x),(.row 3 1 b (λi=>(iV (r i)))),jgZ]⟩):=by
 exact Aa (ks:=[kn h0]) (by kernel_rfl)
theorem Akw (h0:ilt (ofNat b) (ofNat n) = true) (h13:ile 0 (ofNat b) = true) (h1:nlt b n = true) (h2:Fh (th b) = true) (h14:AY b 1 40 = true) (h15:nlt m 4611686018427387904 = true) (h16:Fh (wr .i64 (Af (pl (th b)) 1)) = true) (h17:AY b 1 8 = true):Ah (KZ L) (Ob a n f) (Q1 a n f b m tt kk g th lo r x pl j) = some (.nm,⟨(jsV 164 0 (λ_=>.und) [(0,(iV a)),(4,(.ptr 0 0)),(5,(iV 0)),(6,(iV 0)),(11,(nV n)),(14,(.ptr 2 0)),(16,(.ref 7)),(17,(.ref 8)),(18,(.ref 9)),(80,(nV n)),(81,(iV (wr .i64 (Af (ofNat b) 1))))]),[c7Z,(.row 44 6 n (λi=>(eV (B4 n f i)))),(.cells [(iV a),(.ref 3),(.ref 4),(iV (sel (ilt tt (wr .i64 (Af (th b) 1))) (wr .i64 (Af (th b) 1)) tt)),(iV (sel (ilt kk (wr .i64 (Af (lo b) 1))) (wr .i64 (Af (lo b) 1)) kk)),(.ref 5),(.jref 6)]),(.row 44 6 n (λi=>(eV (g i)))),(.row 40 5 (AQ b 1) (A1 b x (.agg [(iV (th b)),(iV (pl (th b))),(iV ((g b)).src),(iV (lo b)),(iV 0)]))),(.row 3 1 (AQ b 1) (A1 b (λi=>(iV (r i))) (iV (-1)))),jgZ,(.row 3 1 n (λk=>(iV (th k)))),(.row 3 1 n (λk=>(iV (lo k)))),(.imap 76 (AQ m 1) (λi=>(sel (ieq i (th b)) (wr .i64 (Af (pl (th b)) 1)) (pl i))))]⟩):=by
 exact Aa (ks:=[kn h0,kA (kn h13) (kn h0),kn h1,kA (kn h13) (kn h0),kn h1,kn h2,kA (kn h13) (kn h0),kn h1,kA (kn h13) (kn h0),kn h1,kn h14,kA (kn h13) (kn h0),kn h1,kn h2,kn h15,kn h2,kn h16,kA (kn h13) (kn h0),kn h1,kA (kn h13) (kn h0),kn h1,kn h17]) (by kernel_rfl)
end
def J3 (a:Int) (n:Nat) (f:Nat->E6):Lp:=⟨(bmK 164 0 [4,11,14,145,146]),8,bmK 164 0 [4,14],8,n+1⟩
def Ls (a:Int) (n:Nat) (f:Nat->E6) (b kk:Nat) (tt:Int) (g:Nat->E6) (x:Nat->Ev5) (r:Nat->Int) (ln:Nat->Nat) (co:Nat->Nat->Int) (j:Nat->V):St:=⟨(jsV 164 0 j [(4,.ptr 0 0),(11,nV n),(14,.ptr 2 0),(145,nV n),(146,nV b)]),[c7Z,.row 44 6 n (λi=>eV (B4 n f i)),.cells [iV a,.ref 3,.ref 4,iV tt,nV kk,.ref 5,.jref 7],.row 44 6 n (λi=>eV (g i)),.row 40 5 n (λi=>evV (x i)),.row 3 1 n (λi=>iV (r i)),jgZ,.jag (Jag.mk 25 1 kk (λ_=>.nilS) 0 3 1 (λ_=>true) ln (λi k=>iV (co i k)))]⟩
def IT (a:Int) (n:Nat) (f:Nat->E6) (b kk:Nat) (tt:Int) (g:Nat->E6) (x:Nat->Ev5) (r:Nat->Int) (ln:Nat->Nat) (co:Nat->Nat->Int):Ex × St:=(.ex 6,⟨(jsV 164 0 (λ_=>.und) [(4,.ptr 0 0),(14,.ptr 2 0)]),[c7Z,.row 44 6 n (λi=>eV (B4 n f i)),.cells [iV a,.ref 3,.ref 4,iV tt,nV kk,.ref 5,.jref 7],.row 44 6 n (λi=>eV (g i)),.row 40 5 n (λi=>evV (x i)),.row 3 1 n (λi=>iV (r i)),jgZ,.jag (Jag.mk 25 1 kk (λ_=>.nilS) 0 3 1 (λ_=>true) ln (λi k=>iV (co i k)))]⟩)
def Up (n b:Nat) (u:Nat->V):List V:=(jsV 164 0 u [(4,.ptr 0 0),(11,nV n),(14,.ptr 2 0),(145,nV n),(146,nV b)])
noncomputable def Ir (L:LT):St->T (Ex × St):=λst=>AC tab ⟨Dp,L,Gl⟩ (Au Try.f14 6) 6 st
section
variable (L:LT) (a:Int) (n:Nat) (f:Nat->E6) (b kk:Nat) (tt:Int) (g:Nat->E6) (x:Nat->Ev5) (r:Nat->Int) (ln:Nat->Nat) (co:Nat->Nat->Int)  (j:Nat->V)
include L a n f b kk tt g x r ln co j
theorem Akm (h0:ilt (ofNat b) (ofNat n) = false):(((AC tab ⟨Dp,L,Gl⟩ (Au Try.f14 6) 6 (Ls a n f b kk tt g x r ln co j)).bind λr=>T.leaf (XZ (J3 a n f) r))).sem = some ((.ex 6),⟨(jsV 164 0 (λ_=>.und) [(4,(.ptr 0 0)),(14,(.ptr 2 0))]),[c7Z,(.row 44 6 n (λi=>(eV (B4 n f i)))),(.cells [(iV a),(.ref 3),(.ref 4),(iV tt),(nV kk),(.ref 5),(.jref 7)]),(.row 44 6 n (λi=>(eV (g i)))),(.row 40 5 n (λi=>(evV (x i)))),(.row 3 1 n (λi=>(iV (r i)))),jgZ,(.jag (Jag.mk 25 1 kk (λ_=>.nilS) 0 3 1 (λ_=>true) ln (λi k=>(iV (co i k)))))]⟩):=by
 exact Aa (ks:=[kn h0]) (by kernel_rfl)
theorem Akl (h0:ilt (ofNat b) (ofNat n) = true) (h1:ieq (ofNat n) 0 = false) (h14:Ak (ile 0 (Ae (wr .i64 (AK (wr .i64 (Af (ofNat b) (ofNat n))) 1)) (ofNat n))) (ilt (Ae (wr .i64 (AK (wr .i64 (Af (ofNat b) (ofNat n))) 1)) (ofNat n)) (ofNat n)) = true) (h15:nlt (toN (Ae (wr .i64 (AK (wr .i64 (Af (ofNat b) (ofNat n))) 1)) (ofNat n))) n = true) (h2:Aw (g (toN (Ae (wr .i64 (AK (wr .i64 (Af (ofNat b) (ofNat n))) 1)) (ofNat n)))) = false):(((AC tab ⟨Dp,L,Gl⟩ (Au Try.f14 6) 6 (Ls a n f b kk tt g x r ln co j)).bind λr=>T.leaf (XZ (J3 a n f) r))).sem = some (.nm,⟨(jsV 164 0 (λ_=>.und) [(4,(.ptr 0 0)),(11,(nV n)),(14,(.ptr 2 0)),(145,(nV n)),(146,(iV (wr .i64 (Af (ofNat b) 1))))]),[c7Z,(.row 44 6 n (λi=>(eV (B4 n f i)))),(.cells [(iV a),(.ref 3),(.ref 4),(iV tt),(nV kk),(.ref 5),(.jref 7)]),(.row 44 6 n (λi=>(eV (g i)))),(.row 40 5 n (λi=>(evV (x i)))),(.row 3 1 n (λi=>(iV (r i)))),jgZ,(.jag (Jag.mk 25 1 kk (λ_=>.nilS) 0 3 1 (λ_=>true) ln (λi k=>(iV (co i k)))))]⟩):=by
 exact Aa (ks:=[kn h0,kn h1,kn h14,kn h15,kn h2]) (by kernel_rfl)
end
theorem Akk (L:LT) (a:Int) (n:Nat) (f:Nat->E6) (b kk:Nat) (tt:Int) (g:Nat->E6) (x:Nat->Ev5) (r:Nat->Int) (ln:Nat->Nat) (co:Nat->Nat->Int) (u:Nat->V) (x':Nat->Ev5) (r':Nat->Int) (ln':Nat->Nat) (co':Nat->Nat->Int) (q55:List V->St->Bool) (j:Nat->V) (h0:ilt (ofNat b) (ofNat n) = true) (h1:ieq (ofNat n) 0 = false) (h14:Ak (ile 0 (Ae (wr .i64 (AK (wr .i64 (Af (ofNat b) (ofNat n))) 1)) (ofNat n))) (ilt (Ae (wr .i64 (AK (wr .i64 (Af (ofNat b) (ofNat n))) 1)) (ofNat n)) (ofNat n)) = true) (h15:nlt (toN (Ae (wr .i64 (AK (wr .i64 (Af (ofNat b) (ofNat n))) 1)) (ofNat n))) n = true) (h2:Aw (g (toN (Ae (wr .i64 (AK (wr .i64 (Af (ofNat b) (ofNat n))) 1)) (ofNat n)))) = true) (hq55:(q55 [(.ptr 2 0),(nV b)] ⟨(jsV 164 0 j [(4,(.ptr 0 0)),(11,(nV n)),(14,(.ptr 2 0)),(20,(nV b)),(145,(nV n)),(146,(nV b)),(147,(bV (ilt (ofNat b) (ofNat n)))),(148,(nV b)),(149,(.ptr 2 1)),(150,(.ref 3)),(151,(nV b)),(152,(nV n)),(153,(iV (wr .i64 (Af (ofNat b) (ofNat n))))),(154,(iV (wr .i64 (AK (wr .i64 (Af (ofNat b) (ofNat n))) 1)))),(155,(nV n)),(156,(iV (Ae (wr .i64 (AK (wr .i64 (Af (ofNat b) (ofNat n))) 1)) (ofNat n)))),(157,(.ept 3 6 (toN (Ae (wr .i64 (AK (wr .i64 (Af (ofNat b) (ofNat n))) 1)) (ofNat n))) 0)),(158,(eV (g (toN (Ae (wr .i64 (AK (wr .i64 (Af (ofNat b) (ofNat n))) 1)) (ofNat n)))))),(159,(bV (Aw (g (toN (Ae (wr .i64 (AK (wr .i64 (Af (ofNat b) (ofNat n))) 1)) (ofNat n))))))),(160,(nV b))]),[c7Z,(.row 44 6 n (λi=>(eV (B4 n f i)))),(.cells [(iV a),(.ref 3),(.ref 4),(iV tt),(nV kk),(.ref 5),(.jref 7)]),(.row 44 6 n (λi=>(eV (g i)))),(.row 40 5 n (λi=>(evV (x i)))),(.row 3 1 n (λi=>(iV (r i)))),jgZ,(.jag (Jag.mk 25 1 kk (λ_=>.nilS) 0 3 1 (λ_=>true) ln (λi k=>(iV (co i k)))))]⟩) = true):(((AC tab ⟨(onC 55 q55 (.tup [],.all ⟨Up n b u,[c7Z,(.row 44 6 n (λi=>eV (B4 n f i))),(.cells [(iV a),(.ref 3),(.ref 4),(iV tt),(nV kk),(.ref 5),(.jref 7)]),(.row 44 6 n (λi=>(eV (g i)))),(.row 40 5 n (λi=>evV (x' i))),(.row 3 1 n (λi=>iV (r' i))),jgZ,(.jag (Jag.mk 25 1 kk (λ_=>.nilS) 0 3 1 (λ_=>true) ln' (λi k=>iV (co' i k))))] ++ [.dead]⟩) (Dp)),L,Gl⟩ (Au Try.f14 6) 6 (Ls a n f b kk tt g x r ln co j)).bind λr=>T.leaf (XZ (J3 a n f) r))).sem = some (.nm,⟨(jsV 164 0 (λ_=>.und) [(4,(.ptr 0 0)),(11,(nV n)),(14,(.ptr 2 0)),(145,(nV n)),(146,(iV (wr .i64 (Af (ofNat b) 1))))]),[c7Z,(.row 44 6 n (λi=>(eV (B4 n f i)))),(.cells [(iV a),(.ref 3),(.ref 4),(iV tt),(nV kk),(.ref 5),(.jref 7)]),(.row 44 6 n (λi=>(eV (g i)))),(.row 40 5 n (λi=>(evV (x' i)))),(.row 3 1 n (λi=>(iV (r' i)))),jgZ,(.jag (Jag.mk 25 1 kk (λ_=>.nilS) 0 3 1 (λ_=>true) ln' (λi k=>(iV (co' i k)))))]⟩):=by
 exact Aa (ks:=[kn h0,kn h1,kn h14,kn h15,kn h2,kn hq55]) (by kernel_rfl)
def Ry (a:Int) (n:Nat) (f:Nat->E6) (q:Nat) (g:Nat->E6):St:=⟨(jsV 164 0 (λ_=>.und) [(0,(iV a)),(4,(.ptr 0 0)),(5,(iV 0)),(6,(iV 0)),(11,(nV n)),(14,(.ptr 2 0)),(16,(.ref 7)),(17,(.ref 8)),(18,(.ref 9)),(73,(.ptr 2 1)),(74,(.ref 3)),(75,(.ref 7)),(76,(.ptr 2 1)),(77,(.ref 3)),(78,(.ref 8)),(79,(.ref 9)),(80,(nV n)),(81,(iV 0))]),[c7Z,.row 44 6 n (λi=>eV (B4 n f i)),.cells [iV a,.ref 3,.ref 4,iV 0,iV 0,.ref 5,.jref 6],.row 44 6 n (λi=>eV (g i)),.row 40 5 0 (λ_=>.und),r3Z,jgZ,.row 3 1 n (λk=>iV (A0 (λk=>Ax (g k)) n k)),.row 3 1 n (λk=>iV (A0 (λk=>Aw (g k)) n k)),.imap 76 0 (λ_=>0)]⟩
def Rx (a:Int) (n:Nat) (f:Nat->E6) (q m kk:Nat) (tt:Int) (g:Nat->E6) (th lo r:Nat->Int) (x:Nat->Ev5) (pl:Int->Int):St:=⟨(jsV 164 0 (λ_=>.und) [(4,(.ptr 0 0)),(5,(iV 0)),(6,(iV 0)),(11,(nV n)),(14,(.ptr 2 0)),(141,(.ptr 2 4)),(142,(nV kk)),(143,(.jref 7)),(144,(.ptr 2 6)),(145,(nV n)),(146,(iV 0))]),[c7Z,.row 44 6 n (λi=>eV (B4 n f i)),.cells [iV a,.ref 3,.ref 4,iV tt,nV kk,.ref 5,.jref 7],.row 44 6 n (λi=>eV (g i)),.row 40 5 n (λi=>evV (x i)),.row 3 1 n (λi=>iV (r i)),jgZ,.jag (Jag.mk 25 1 kk (λ_=>.nilS) 0 3 1 (λ_=>true) (λ_=>0) (λ_ _=>.und))]⟩
theorem AmO (L:LT) (p0:PT) (p2:PT) (p4:PT) (p6:PT) (a:Int) (n:Nat) (f:Nat->E6) (q m kk:Nat) (tt:Int) (g:Nat->E6) (th lo r:Nat->Int) (x:Nat->Ev5) (pl:Int->Int) (x':Nat->Ev5) (r':Nat->Int) (ln':Nat->Nat) (co':Nat->Nat->Int) (h0:Bj n = true) (h1:ieq (CV a n f) 0 = true) (h2:CJ n f = true) (h3:Ak (ilt 0 (ofNat n)) (Ak (DZ n) (CG 8 (ofNat n) (ofNat n))) = true) (h15:Bn [.row 3 1 n (λ_=>iV 0)] = true) (h4:CG 24 (ofNat kk) (ofNat kk) = true) (hp0:p0 (RC (onP 0 p0 (PW a n f q) (onP 2 p2 (IV a n f q n (λi=>eV (g i))) (onP 4 p4 (IU a n f n m tt (ofNat kk) g th lo r (λi=>evV (x i)) pl) (onP 6 p6 (IT a n f n kk tt g x' r' ln' co') L))))) (Aci a n f 0 (An0 a n f )) = true) (hp2:p2 (La (onP 0 p0 (PW a n f q) (onP 2 p2 (IV a n f q n (λi=>eV (g i))) (onP 4 p4 (IU a n f n m tt (ofNat kk) g th lo r (λi=>evV (x i)) pl) (onP 6 p6 (IT a n f n kk tt g x' r' ln' co') L))))) (Lt a n f q 0 (λ_=>.und) (AhS a n f q)) = true) (hp4:p4 (KZ (onP 0 p0 (PW a n f q) (onP 2 p2 (IV a n f q n (λi=>eV (g i))) (onP 4 p4 (IU a n f n m tt (ofNat kk) g th lo r (λi=>evV (x i)) pl) (onP 6 p6 (IT a n f n kk tt g x' r' ln' co') L))))) (Ry a n f q g) = true) (hp6:p6 (Ir (onP 0 p0 (PW a n f q) (onP 2 p2 (IV a n f q n (λi=>eV (g i))) (onP 4 p4 (IU a n f n m tt (ofNat kk) g th lo r (λi=>evV (x i)) pl) (onP 6 p6 (IT a n f n kk tt g x' r' ln' co') L))))) (Rx a n f q m kk tt g th lo r x pl) = true):(Ar (Ai tab ⟨Dp,(onP 0 p0 (PW a n f q) (onP 2 p2 (IV a n f q n (λi=>eV (g i))) (onP 4 p4 (IU a n f n m tt (ofNat kk) g th lo r (λi=>evV (x i)) pl) (onP 6 p6 (IT a n f n kk tt g x' r' ln' co') L)))),Gl⟩ Try.f14 [iV a,.sl 6 n λi=>eV (f i)] [])).sem = some ((.tup [(.agg [(iV a),(.ref 0),(.ref 1),(iV tt),(nV kk),(.ref 2),(.jref 3)]),(iV 0),(iV 0)]),[(.row 44 6 n (λi=>(eV (g i)))),(.row 40 5 n (λi=>(evV (x' i)))),(.row 3 1 n (λi=>(iV (r' i)))),(.jag (Jag.mk 25 1 kk (λ_=>.nilS) 0 3 1 (λ_=>true) ln' (λi k=>(iV (co' i k)))))]):=by
 exact Aa (ks:=[kL n,kn h0,kN (kn h1),kL n,kn h0,kn h2,kn hp0,kn hp2,kT,kL n,kn h3,kn h15,kT,kL n,kn h3,kn h15,kn hp4,kn h4,kn hp6]) (by kernel_rfl)
def AcG:LT:=λ_ _ _=>.fail
theorem Wq (L:LT):LLe AcG L:=λ_ _ _ _ _ _ h=>by cases h
def zE:E6:=⟨0,false,false,0,0,0⟩
def AlJ (n:Nat) (G:Nat->E6) (i:Nat):E6:=bif decide (i < n) then G i else zE
def shQ (n:Nat) (f:Nat->E6):Nat:=(ES (λi=>Ax (B4 n f i)) n+1) % n
def shG (n:Nat) (f:Nat->E6):Nat->E6:=AlJ n λi=>B4 n f ((shQ n f+i) % n)
theorem Aej (L:LT) (a:Int) (n:Nat) (f:Nat->E6) (hn:n <= 4611686018427387903) (k:Nat) (hk:k < n) (ht:Ax (B4 n f k) = true) (hb:∀ i,i < k->Ax (B4 n f i) = false):∀ (e b:Nat) (j:Nat->V) (q:Nat),k = b+e->e < q ->
  (A4 (RC L) (ZL a n f) q (Aci a n f b j)).sem = some (PW a n f ((k+1) % n))
 | 0,b,j,q+1,h,_=>by
  have:k = b:=by omega
  subst this
  rw [Ab (Ak2 L a n f k j (ofNat_lt hk) (AF k) (decide_eq_true hk) ht (F7 (by omega))),Rm,Ao hk (by omega),C5]
  rfl
 | e+1,b,j,q+1,h,h2=>by
  have hl:b < n:=by omega
  rw [Ab (Ak3 L a n f b j (ofNat_lt hl) (AF b) (decide_eq_true hl) (hb b (by omega))),Aq,Ao hl (by omega)]
  exact Aej L a n f hn k hk ht hb e (b+1) (λ_=>.und) q (by omega) (by omega)
def upE (b:Nat) (G:Nat->E6) (i:Nat):E6:=bif decide (i < b) then G i else zE
theorem Yy (b:Nat) (G:Nat->E6):A1 b (λi=>eV (upE b G i)) (eV (G b)) = λi=>eV (upE (b+1) G i):=by
 funext k
 rw [Bq,show Nat.beq k b = decide (k = b) by rw [Bool.eq_iff_iff]; simp]
 unfold upE
 by_cases h:k = b
 ·subst h; simp
 ·by_cases h2:k < b
  ·have:k < b+1:=by omega
   simp [h,h2,this]
  ·have:¬ k < b+1:=by omega
   simp [h,h2,this]
theorem Zs (L:LT) (a:Int) (n:Nat) (f:Nat->E6) (hn:n <= 16) (z:Nat) (hz:z < n):∀ (e b:Nat) (j:Nat->V) (q:Nat),n = b+e->e < q ->
  (A4 (La L) (Oc a n f) q (Lt a n f z b (λi=>eV (upE b (λi=>B4 n f ((z+i) % n)) i)) j)).sem = some (IV a n f z n (λi=>eV (upE n (λi=>B4 n f ((z+i) % n)) i)))
 | 0,b,j,q+1,h,_=>by
  have:n = b:=by omega
  subst this
  exact Ab (Akz L a n f z n _ j (A6 (Nat.le_refl _)))
 | e+1,b,j,q+1,h,h2=>by
  have hl:b < n:=by omega
  have hI:Ae (wr .i64 (Af (ofNat z) (ofNat b))) (ofNat n) = ofNat ((z+b) % n):=by rw [D9 (by omega),C5]
  have hlt:(z+b) % n < n:=Nat.mod_lt _ (by omega)
  rw [Ab (Aky L a n f z b _ j (ofNat_lt hl) (F7 (by omega)) (by rw [hI]; exact Ap hlt) (by rw [hI]; exact decide_eq_true hlt) (BH (by omega))),Aq,hI,Ao hl (by omega),show toN (ofNat ((z+b) % n)) = (z+b) % n from rfl,
   show B4 n f ((z+b) % n) = (λi=>B4 n f ((z+i) % n)) b from rfl,Yy]
  exact Zs L a n f hn z hz e (b+1) (λ_=>.und) q (by omega) (by omega)
def upX (n:Nat) (g:Nat->E6) (b i:Nat):Ev5:=bif decide (i < b) then evF n g (λ_=>false) i else ⟨0,0,0,0,0⟩
theorem RN (n:Nat) (g:Nat->E6) (b:Nat):A1 b (λi=>evV (upX n g b i)) (evV (evF n g (λ_=>false) b)) = λi=>evV (upX n g (b+1) i):=by
 funext k
 rw [Bq,show Nat.beq k b = decide (k = b) by rw [Bool.eq_iff_iff]; simp]
 unfold upX
 by_cases h:k = b
 ·subst h; simp
 ·by_cases h2:k < b
  ·have:k < b+1:=by omega
   simp [h,h2,this]
  ·have:¬ k < b+1:=by omega
   simp [h,h2,this]
theorem Eg (b:Nat) (v:V):A1 b (λ_=>v) v = λ_=>v:=by
 funext k
 rw [Bq]
 cases Nat.beq k b <;> rfl
def plM (n:Nat) (g:Nat->E6) (b:Nat) (x:Int):Int:=ofNat (Al (λk=>ieq x (thF n g k)) b)
theorem AhG (n:Nat) (g:Nat->E6) {b:Nat} (hb:b < n) (hn:n <= 16):(λi=>sel (ieq i (thF n g b)) (wr .i64 (Af (plM n g b (thF n g b)) 1)) (plM n g b i)) = plM n g (b+1):=by
 funext i
 have hc:=Be (λk=>ieq (thF n g b) (thF n g k)) b
 unfold plM
 rw [Ao (n:=n) (by omega) (by omega)]
 cases h:ieq i (thF n g b) with
 | true =>
  have:=BB h
  subst this
  rw [Bl h]
  rfl
 | false =>
  rw [By h]
  rfl
theorem Aer {p:Nat->Bool} {n b:Nat} (hb:b < n) (hn:n <= 16):sel (ilt (ofNat (rN p n b)) (wr .i64 (Af (A0 p n b) 1))) (wr .i64 (Af (A0 p n b) 1)) (ofNat (rN p n b)) = ofNat (rN p n (b+1)):=by
 have h1:=Kh p n b hb
 have h2:=S3 p n b
 rw [FS hb,Ao (n:=n) (by omega) (by omega),Cs,rN]
 by_cases h:AZ p n b < rN p n b
 ·rw [if_pos h,decide_eq_false (by omega)]; rfl
 ·rw [if_neg h,decide_eq_true (by omega)]
  show ofNat (AZ p n b+1) = _
  rw [show AZ p n b = rN p n b by omega]
theorem Zr (L:LT) (a:Int) (n:Nat) (f:Nat->E6) (hn:n <= 16) (g:Nat->E6):∀ (e b:Nat) (j:Nat->V) (q:Nat),n = b+e->e < q ->
  (A4 (KZ L) (Ob a n f) q (Q1 a n f b b (ofNat (rN (obF g) n b)) (ofNat (rN (mbF g) n b)) g (thF n g) (loF n g) (λ_=>-1) (λi=>evV (upX n g b i)) (plM n g b) j)).sem = some (IU a n f n n (ofNat (rN (obF g) n n)) (ofNat (rN (mbF g) n n)) g (thF n g) (loF n g) (λ_=>-1) (λi=>evV (upX n g n i)) (plM n g n))
 | 0,b,j,q+1,h,_=>by
  have:n = b:=by omega
  subst this
  exact Ab (Akx L a n f n n _ _ g _ _ _ _ _ j (A6 (Nat.le_refl _)))
 | e+1,b,j,q+1,h,h2=>by
  have hl:b < n:=by omega
  have hth:thF n g b = ofNat (AZ (obF g) n b):=FS hl
  have hpn:=NH (p:=obF g) (n:=n) (k:=b) (by omega)
  have hcn:=Be (obF g) n
  have hc:=Be (λk=>ieq (thF n g b) (thF n g k)) b
  have fit:∀ k:Nat,k <= 100->Fh (ofNat k) = true:=λk hk=>by
   unfold Fh
   rw [decide_eq_true (by simp only [Int.ofNat_eq_natCast]; omega),decide_eq_true (by simp only [Int.ofNat_eq_natCast]; omega)]
   rfl
  rw [Ab (Akw L a n f b b _ _ g _ _ _ _ _ j (ofNat_lt hl) (AF b) (decide_eq_true hl) (by rw [hth]; exact fit _ (by omega)) (BH (by omega)) (decide_eq_true (by omega)) (by unfold plM; rw [Ao (n:=n) (by omega) (by omega)]; exact fit _ (by omega)) (BH (by omega))),Aq,Ao hl (by omega)]
  have hx:=RN n g b
  rw [show evV (evF n g (λ_=>false) b) = .agg [iV (thF n g b),iV (plM n g b (thF n g b)),iV (g b).src,iV (loF n g b),iV 0] by rw [Cg hl]; rfl] at hx
  rw [hx,Eg,AhG n g hl hn]
  have m1:=Aer (p:=obF g) hl hn
  have m2:=Aer (p:=mbF g) hl hn
  have m1:sel (ilt (ofNat (rN (obF g) n b)) (wr .i64 (Af (thF n g b) 1))) (wr .i64 (Af (thF n g b) 1)) (ofNat (rN (obF g) n b)) = ofNat (rN (obF g) n (b+1)):=m1
  have m2:sel (ilt (ofNat (rN (mbF g) n b)) (wr .i64 (Af (loF n g b) 1))) (wr .i64 (Af (loF n g b) 1)) (ofNat (rN (mbF g) n b)) = ofNat (rN (mbF g) n (b+1)):=m2
  rw [m1,m2]
  exact Zr L a n f hn g e (b+1) (λ_=>.und) q (by omega) (by omega)
def slW (w4 w11 w14 w145 w146:V) (u:Nat->V):List V:=(jsV 164 0 u [(4,w4),(11,w11),(14,w14),(145,w145),(146,w146)])
def OU (n b:Nat) (g:Nat->E6) (j:Nat->V):List V:=(jsV 164 0 j [(4,(.ptr 0 0)),(11,(nV n)),(14,(.ptr 2 0)),(20,(nV b)),(145,(nV n)),(146,(nV b)),(147,(bV (ilt (ofNat b) (ofNat n)))),(148,(nV b)),(149,(.ptr 2 1)),(150,(.ref 3)),(151,(nV b)),(152,(nV n)),(153,(iV (wr .i64 (Af (ofNat b) (ofNat n))))),(154,(iV (wr .i64 (AK (wr .i64 (Af (ofNat b) (ofNat n))) 1)))),(155,(nV n)),(156,(iV (Ae (wr .i64 (AK (wr .i64 (Af (ofNat b) (ofNat n))) 1)) (ofNat n)))),(157,(.ept 3 6 (toN (Ae (wr .i64 (AK (wr .i64 (Af (ofNat b) (ofNat n))) 1)) (ofNat n))) 0)),(158,(eV (g (toN (Ae (wr .i64 (AK (wr .i64 (Af (ofNat b) (ofNat n))) 1)) (ofNat n)))))),(159,(bV (Aw (g (toN (Ae (wr .i64 (AK (wr .i64 (Af (ofNat b) (ofNat n))) 1)) (ofNat n))))))),(160,(nV b))])
theorem Ab7 (n b:Nat) (g:Nat->E6) (j:Nat->V):(jsV 164 0 j [(4,(.ptr 0 0)),(11,(nV n)),(14,(.ptr 2 0)),(20,(nV b)),(145,(nV n)),(146,(nV b)),(147,(bV (ilt (ofNat b) (ofNat n)))),(148,(nV b)),(149,(.ptr 2 1)),(150,(.ref 3)),(151,(nV b)),(152,(nV n)),(153,(iV (wr .i64 (Af (ofNat b) (ofNat n))))),(154,(iV (wr .i64 (AK (wr .i64 (Af (ofNat b) (ofNat n))) 1)))),(155,(nV n)),(156,(iV (Ae (wr .i64 (AK (wr .i64 (Af (ofNat b) (ofNat n))) 1)) (ofNat n)))),(157,(.ept 3 6 (toN (Ae (wr .i64 (AK (wr .i64 (Af (ofNat b) (ofNat n))) 1)) (ofNat n))) 0)),(158,(eV (g (toN (Ae (wr .i64 (AK (wr .i64 (Af (ofNat b) (ofNat n))) 1)) (ofNat n)))))),(159,(bV (Aw (g (toN (Ae (wr .i64 (AK (wr .i64 (Af (ofNat b) (ofNat n))) 1)) (ofNat n))))))),(160,(nV b))]) = OU n b g j:=rfl
theorem Y2 (n b:Nat) (g:Nat->E6) (j:Nat->V) (F:V->V):(OU n b g j).map F = slW (F (.ptr 0 0)) (F (nV n)) (F (.ptr 2 0)) (F (nV n)) (F (nV b)) (λi=>F (nth (OU n b g j) i)):=by kernel_rfl
def hpD (a:Int) (n:Nat) (f:Nat->E6) (g:Nat->E6) (tt:Int) (b:Nat):List Blk:=[c7Z,.row 44 6 n (λi=>eV (B4 n f i)),.cells [iV a,.ref 3,.ref 4,iV tt,iV (ofNat (kkN n g)),.ref 5,.jref 7],.row 44 6 n (λi=>eV (g i)),.row 40 5 n (λi=>evV (evF n g (dnF n g (Bz (mbF g) n) b 0) i)),.row 3 1 n (λi=>iV (rfF n g (dnF n g (Bz (mbF g) n) b 0) i)),jgZ,.jag (Jag.mk 25 1 (kkN n g) (λ_=>.nilS) 0 3 1 (λ_=>true) (lnP n g b 0) (λi k=>iV (coP n g b 0 i k)))]
theorem Yg (vs:List V) (st:St):Dp 55 vs st = Kz tab (AI Gl tb55 Jp) Try.f55 vs st:=by kernel_rfl
theorem Te {τ:List Ty} {Γ:Cx} {fn:Func} {vs:List V} {st:St} {p:V × List Blk} {t:List V} (h:(Ai τ Γ fn vs (st.h ++ [.saved st.t])).sem = some p) (hp:p.2[st.h.length]? = some (.saved t)) :
  (Kz τ Γ fn vs st).sem = some (p.1,.all ⟨t,p.2.set st.h.length .dead⟩):=by
 unfold Kz
 rw [De,h]
 show (match p.2[st.h.length]? with | some (.saved t)=>T.leaf (p.1,Res.all ⟨t,p.2.set st.h.length .dead⟩) | _=>.fail).sem = _
 rw [hp]
 rfl
theorem Air (a:Int) (n:Nat) (f:Nat->E6) (hn:n <= 16) (b:Nat) (g:Nat->E6) (tt:Int) (ts:List V) (hb:b < n) (hst:CL (mbF g) n b = true):∃ F,Gu F ∧
  (Dp 55 [.ptr 2 0,nV b] ⟨ts,(hpD a n f g tt b)⟩).sem = some (.tup [],.all ⟨ts.map F,(hpD a n f g tt (b+1)) ++ [Blk.dead]⟩):=by
 obtain ⟨l1,l2,l3,l4⟩:=E8 hb hst
 have hL:=AE Jp
 have h1:∃ F,Gu F ∧ (A4 (JK (AV Jp)) (Kl a n (kkN n g) b (λi=>B4 n f i) g tt (λ_=>.nilS) (evF n g (dnF n g (Bz (mbF g) n) b 0)) (rfF n g (dnF n g (Bz (mbF g) n) b 0)) (lnP n g b 0) (coP n g b 0) ts) 17 (Ui a n (kkN n g) b (λi=>B4 n f i) g tt (λ_=>.nilS) (evF n g (dnF n g (Bz (mbF g) n) b 0)) (rfF n g (dnF n g (Bz (mbF g) n) b 0)) (lnP n g b 0) (coP n g b 0) ts 0 (loF n g b) (-1) 0 (evF n g (dnF n g (Bz (mbF g) n) b 0)) (rfF n g (dnF n g (Bz (mbF g) n) b 0)) (lnP n g b 0) (coP n g b 0) (Alx a n (kkN n g) b (λi=>B4 n f i) g tt (λ_=>.nilS) (evF n g (dnF n g (Bz (mbF g) n) b 0)) (rfF n g (dnF n g (Bz (mbF g) n) b 0)) (lnP n g b 0) (coP n g b 0) ts))).sem = _ :=
  AjR (AV Jp) a n b (λi=>B4 n f i) g tt (λ_=>.nilS) (evF n g (dnF n g (Bz (mbF g) n) b 0)) (rfF n g (dnF n g (Bz (mbF g) n) b 0)) (lnP n g b 0) (coP n g b 0) ts hb hst (by omega) (Cw (mbF g) n b - 1) 0 ts _ 17 (by omega) (by omega)
 obtain ⟨F,hF,h1⟩:=h1
 refine ⟨F,hF,?_⟩
 have hin:Ak (ile 0 (ofNat b)) (ilt (ofNat b) (ofNat n)) = true:=Ap hb
 have hlc:(evF n g (dnF n g (Bz (mbF g) n) b 0) b).loc = loF n g b:=by rw [Cg hb]
 have hw:=AlY (AV Jp) (isP (AV Jp) 0 (WN a n (kkN n g) b (λi=>B4 n f i) g tt (λ_=>.nilS) (evF n g (dnF n g (Bz (mbF g) n) b 0)) (rfF n g (dnF n g (Bz (mbF g) n) b 0)) (lnP n g b 0) (coP n g b 0) (ts.map F) 0 0 0 0 (evF n g (dnF n g (Bz (mbF g) n) (b+1) 0)) (rfF n g (dnF n g (Bz (mbF g) n) (b+1) 0)) (lnP n g (b+1) 0) (coP n g (b+1) 0))) a n (kkN n g) b (λi=>B4 n f i) g tt (λ_=>.nilS) (evF n g (dnF n g (Bz (mbF g) n) b 0)) (rfF n g (dnF n g (Bz (mbF g) n) b 0)) (lnP n g b 0) (coP n g b 0) ts (ts.map F) 0 0 0 0 (evF n g (dnF n g (Bz (mbF g) n) (b+1) 0)) (rfF n g (dnF n g (Bz (mbF g) n) (b+1) 0)) (lnP n g (b+1) 0) (coP n g (b+1) 0) hin (decide_eq_true hb)
 rw [hlc] at hw
 have hw:=hw (Aj h1)
 have e:=LI (τ:=tab) (G:=Gl) (fn:=Try.f55) (CLe.refl (Am tb55)) (As (k:=0) hL hL) _ hw
 rw [Yg]
 exact Te (st:=⟨ts,(hpD a n f g tt b)⟩) (Γ:=AI Gl tb55 Jp) e rfl
theorem Zq (L:LT) (a:Int) (n:Nat) (f:Nat->E6) (hn:n <= 16) (g:Nat->E6) (tt:Int) (hk:∃ k,k < n ∧ mbF g k = true):∀ (e b:Nat) (j:Nat->V) (q:Nat),n = b+e->e < q ->
  (A4 (Ir L) (J3 a n f) q (Ls a n f b (kkN n g) tt g (evF n g (dnF n g (Bz (mbF g) n) b 0)) (rfF n g (dnF n g (Bz (mbF g) n) b 0)) (lnP n g b 0) (coP n g b 0) j)).sem = some (IT a n f n (kkN n g) tt g (evF n g (dnF n g (Bz (mbF g) n) n 0)) (rfF n g (dnF n g (Bz (mbF g) n) n 0)) (lnP n g n 0) (coP n g n 0))
 | 0,b,j,q+1,h,_=>by
  have:n = b:=by omega
  subst this
  rw [show Ir L = AC tab ⟨Dp,L,Gl⟩ (Au Try.f14 6) 6 from rfl]
  exact Ab (Akm L a n f n _ _ g _ _ _ _ j (A6 (Nat.le_refl _)))
 | e+1,b,j,q+1,h,h2=>by
  have hl:b < n:=by omega
  have hx:=Jc (a:=b) (n:=n) (by omega) (by omega)
  have hlt:(b+(n - 1)) % n < n:=Nat.mod_lt _ (by omega)
  have hin:Ak (ile 0 (Ae (wr .i64 (AK (wr .i64 (Af (ofNat b) (ofNat n))) 1)) (ofNat n))) (ilt (Ae (wr .i64 (AK (wr .i64 (Af (ofNat b) (ofNat n))) 1)) (ofNat n)) (ofNat n)) = true:=by rw [hx]; exact Ap hlt
  have hnl:nlt (toN (Ae (wr .i64 (AK (wr .i64 (Af (ofNat b) (ofNat n))) 1)) (ofNat n))) n = true:=by rw [hx]; exact decide_eq_true hlt
  have next:=λj=>Zq L a n f hn g tt hk e (b+1) j q (by omega) (by omega)
  cases hst:CL (mbF g) n b with
  | false =>
   have hm:Aw (g (toN (Ae (wr .i64 (AK (wr .i64 (Af (ofNat b) (ofNat n))) 1)) (ofNat n)))) = false:=by rw [hx]; exact hst
   rw [show Ir L = AC tab ⟨Dp,L,Gl⟩ (Au Try.f14 6) 6 from rfl,Ab (Akl L a n f b (kkN n g) tt g (evF n g (dnF n g (Bz (mbF g) n) b 0)) (rfF n g (dnF n g (Bz (mbF g) n) b 0)) (lnP n g b 0) (coP n g b 0) j (ofNat_lt hl) (F7 (by omega)) hin hnl hm),Aq,Ao hl (by omega)]
   have hd:dnF n g (Bz (mbF g) n) b 0 = dnF n g (Bz (mbF g) n) (b+1) 0:=by
    funext i
    unfold dnF
    by_cases hi:i < n
    ·rw [XT hi hk hst]
    ·rw [decide_eq_false hi]; rfl
   rw [hd,SS hst,Abg (SS hst)]
   exact next (λ_=>.und)
  | true =>
   have hm:Aw (g (toN (Ae (wr .i64 (AK (wr .i64 (Af (ofNat b) (ofNat n))) 1)) (ofNat n)))) = true:=by rw [hx]; exact hst
   obtain ⟨F,hF,hc⟩:=Air a n f hn b g tt (OU n b g j) hl hst
   have hts:(OU n b g j).map F = Up n b (λi=>F (nth (OU n b g j) i)):=by
    have:(OU n b g j).map F = slW (F (.ptr 0 0)) (F (nV n)) (F (.ptr 2 0)) (F (nV n)) (F (nV b)) (λi=>F (nth (OU n b g j) i)):=Y2 n b g j F
    rw [this,hF.2 0 0 (by omega),hF.2 2 0 (by omega)]
    unfold nV iV
    rw [hF.1,hF.1]
    rfl
   rw [hts] at hc
   have hr:=λq55=>Akk AcG a n f b (kkN n g) tt g (evF n g (dnF n g (Bz (mbF g) n) b 0)) (rfF n g (dnF n g (Bz (mbF g) n) b 0)) (lnP n g b 0) (coP n g b 0) (λi=>F (nth (OU n b g j) i)) (evF n g (dnF n g (Bz (mbF g) n) (b+1) 0)) (rfF n g (dnF n g (Bz (mbF g) n) (b+1) 0)) (lnP n g (b+1) 0) (coP n g (b+1) 0) q55 j (ofNat_lt hl) (F7 (by omega)) hin hnl hm
   rw [Ab7] at hr
   have hr:=hr (isC Dp 55 (.tup [],.all ⟨Up n b (λi=>F (nth (OU n b g j) i)),(hpD a n f g tt (b+1)) ++ [Blk.dead]⟩)) (Tc hc)
   have hr':=CB (f':=Ir L) (l:=J3 a n f) (LJ (τ:=tab) (G:=Gl) (ZB (CLe.refl Dp)) (Wq L) (Au Try.f14 6) 6 (Ls a n f b (kkN n g) tt g (evF n g (dnF n g (Bz (mbF g) n) b 0)) (rfF n g (dnF n g (Bz (mbF g) n) b 0)) (lnP n g b 0) (coP n g b 0) j)) hr
   rw [Ab hr',Aq,Ao hl (by omega)]
   exact next (λ_=>.und)
def ttN (n:Nat) (g:Nat->E6):Nat:=Al (obF g) n
def Uq (a:Int) (n:Nat) (g:Nat->E6):V:=.agg [iV a,.ref 0,.ref 1,iV (ofNat (ttN n g)),iV (ofNat (kkN n g)),.ref 2,.jref 3]
def Ur (n:Nat) (g:Nat->E6):List Blk:=[.row 44 6 n (λi=>eV (g i)),.row 40 5 n (λi=>evV (evF n g (λ_=>true) i)),.row 3 1 n (λi=>iV (rfF n g (λ_=>true) i)),
 .jag ⟨25,1,kkN n g,λ_=>.und,0,3,1,λ_=>true,lnN (mbF g) (wrF g) n,λk i=>iV (ofNat (coN (mbF g) (wrF g) n k i))⟩]
def noV:V:=.agg [iV 0,.ref 0,.ref 1,iV 0,iV 0,.ref 2,.jref 3]
def noH:List Blk:=[.row 44 6 0 (λ_=>.und),.row 40 5 0 (λ_=>.und),.row 3 1 0 (λ_=>.und),.jag ⟨25,1,0,λ_=>.und,0,3,1,λ_=>true,λ_=>0,λ_ _=>.und⟩]
def ofT:List V->T (V × List Blk)
 | [.val (.int .i64 a),v]=>apL v λn f=>.br (Bj n) (.br (ieq (CV a n f) 0) (.leaf (.tup [Uq a n (shG n f),iV 0,iV 0],Ur n (shG n f))) (.leaf (.tup [noV,iV (CV a n f),iV (OE a n f)],noH))) .fail
 | _=>.fail
theorem Q4 {n i:Nat} {f:Nat->E6} (h:i < n):shG n f i = B4 n f ((shQ n f+i) % n):=by
 unfold shG AlJ
 rw [decide_eq_true h]
 rfl
theorem Pe {a:Int} {n:Nat} {f g:Nat->E6} (h:IsCycle a n f) (he:∀ i,i < n->g i = f i):IsCycle a n g:=by
 have c1:∀ (p:E6->Bool) k,k <= n->Al (λi=>p (g i)) k = Al (λi=>p (f i)) k:=λp k hk=>GI λi hi=>by rw [he i (by omega)]
 have c2:∀ (p:E6->Bool) i,i < n->A0 (λk=>p (g k)) n i = A0 (λk=>p (f k)) n i:=λp i hi=>by
  rw [FS hi,FS hi]
  unfold AZ
  rw [c1 p i (by omega),c1 p n (Nat.le_refl _)]
 have hlo:=h.lo
 refine ⟨h.arch,h.lo,h.hi,λi hi=>?_,λi hi=>?_,?_,?_,λi hi=>?_,λi hi=>?_⟩
 ·have:=h.legal i hi
  unfold C3 at this ⊢
  rw [he i hi]
  exact this
 ·have:=h.meets i hi
  unfold Fl at this ⊢
  rw [he i hi,he _ (Nat.mod_lt _ (by omega))]
  exact this
 ·rw [c1 Ax n (Nat.le_refl _)]; exact h.outer
 ·rw [c1 Aw n (Nat.le_refl _)]; exact h.moves
 ·have:=h.writes i hi
  unfold AJ Gr at this ⊢
  have e:(λi=>isW (g i)) i = (λi=>isW (f i)) i:=by show isW (g i) = isW (f i); rw [he i hi]
  rw [e,c2 Aw i hi,GI (q:=Cz (A0 (λk=>Aw (f k)) n) (λi=>isW (f i)) (A0 (λk=>Aw (f k)) n i)) λk hk=>by
   unfold Cz
   rw [c2 Aw k hk]
   show Ak _ (isW (g k)) = Ak _ (isW (f k))
   rw [he k hk]]
  exact this
 ·have:=h.crowd i hi
  unfold AJ Gr at this ⊢
  rw [c2 Ax i hi,GI (q:=Cz (A0 (λk=>Ax (f k)) n) (λ_=>true) (A0 (λk=>Ax (f k)) n i)) λk hk=>by
   unfold Cz
   rw [c2 Ax k hk]]
  exact this
theorem IW {p:Nat->Bool}:∀ {n:Nat},0 < Al p n->∃ k,k < n ∧ p k = true
 | 0,h=>by simp [Al] at h
 | n+1,h=>by
  cases hp:p n with
  | true=>exact ⟨n,Nat.lt_succ_self n,hp⟩
  | false =>
   rw [By hp] at h
   obtain ⟨k,h1,h2⟩:=IW h
   exact ⟨k,by omega,h2⟩
theorem PY {a:Int} {n:Nat} {f:Nat->E6} (h:IsCycle a n f):IsCycle a n (λi=>B4 n f i):=by
 have h1:=PN n (λi=>BP (f i))
 have h2:=h.lo
 exact h.turned (show D0 n (λi=>BP (f i)) < n by omega)
theorem Q3 {a:Int} {n:Nat} {f:Nat->E6} (h:IsCycle a n f):ES (λi=>Ax (B4 n f i)) n < n ∧ Ax (B4 n f (ES (λi=>Ax (B4 n f i)) n)) = true ∧ (∀ i,i < ES (λi=>Ax (B4 n f i)) n->Ax (B4 n f i) = false) ∧ shQ n f < n:=by
 have h2:=h.lo
 have h3:=(PY h).outer
 obtain ⟨k,h4,h5⟩:=IW (p:=λi=>Ax (B4 n f i)) (n:=n) (by omega)
 obtain ⟨h6,h7,h8⟩:=Fn (p:=λi=>Ax (B4 n f i)) h4 h5
 exact ⟨by omega,h7,h8,Nat.mod_lt _ (by omega)⟩
theorem Gy {a:Int} {n:Nat} {f:Nat->E6} (h:IsCycle a n f):IsCycle a n (shG n f) :=
 Pe ((PY h).turned (Q3 h).2.2.2) λi hi=>Q4 hi
theorem Sn {a:Int} {n:Nat} {f:Nat->E6} (h:IsCycle a n f):obF (shG n f) (n - 1) = true:=by
 obtain ⟨h1,h2,h3,h4⟩:=Q3 h
 have hlo:=h.lo
 unfold obF
 rw [Q4 (by omega)]
 have:(shQ n f+(n - 1)) % n = ES (λi=>Ax (B4 n f i)) n:=by
  unfold shQ
  rw [Nat.mod_add_mod,show ES (λi=>Ax (B4 n f i)) n+1+(n - 1) = ES (λi=>Ax (B4 n f i)) n+n by omega,Nat.add_mod_right,Nat.mod_eq_of_lt h1]
 rw [this]
 exact h2
theorem QF {p:Nat->Bool} {n:Nat} (h:2 <= Al p n):rN p n n = Al p n:=by
 have hn:0 < n:=by
  rcases Nat.eq_zero_or_pos n with h0 | h0
  ·subst h0; simp [Al] at h
  ·exact h0
 have h1:=Z5 p n (n - 1) (by omega)
 rw [show n - 1+1 = n by omega] at h1
 rw [h1]
 have h2:=LP p (n - 1)
 rw [show n - 1+1 = n by omega] at h2
 split <;> omega
theorem SQ {Γ:Cx} {zs:List (Nat × List (Nat × V))} {loops:List (Nat × Lp)} (h:Γ.loop = CE zs loops):BM Γ:=λid f st r hr=>by
 rw [h] at hr
 have by':∀ st,(AV loops id f st).sem = some r->∃ l m,(A4 f l m st).sem = some r:=λst hr=>by
  unfold AV at hr
  split at hr
  ·exact ⟨_,_,hr⟩
  ·cases hr
 unfold CE at hr
 split at hr
 ·obtain ⟨l,m,h1⟩:=by' _ hr
  exact ⟨_,l,m,RJ _ _,h1⟩
 ·obtain ⟨l,m,h1⟩:=by' _ hr
  exact ⟨_,l,m,LE.refl _,h1⟩
def Aiz:List (Nat × List (Nat × V)):=[(2,[(3,eV zE)]),(4,[(4,evV ⟨0,0,0,0,0⟩),(5,iV (-1))]),(6,[(7,iV 0)])]
def Aeu (a:Int) (n:Nat) (f:Nat->E6):List (Nat × Lp):=[(0,ZL a n f),(2,Oc a n f),(4,Ob a n f),(6,J3 a n f)]
noncomputable def XY (a:Int) (n:Nat) (f:Nat->E6):Cx:=⟨Dp,CE Aiz (Aeu a n f),Gl⟩
theorem Aaz (a:Int) (n:Nat) (f:Nat->E6) (z:Nat) (j:Nat->V):CU (Lt a n f z 0 (λ_=>.und) j) [(3,eV zE)] = Lt a n f z 0 (λ_=>eV zE) j:=by kernel_rfl
theorem Aay (a:Int) (n:Nat) (f:Nat->E6) (z:Nat) (g:Nat->E6):CU (Ry a n f z g) [(4,evV ⟨0,0,0,0,0⟩),(5,iV (-1))] = Q1 a n f 0 0 0 0 g (thF n g) (loF n g) (λ_=>-1) (λ_=>evV ⟨0,0,0,0,0⟩) (λ_=>0) (λi=>nth (Ry a n f z g).t i):=by kernel_rfl
theorem Aax (a:Int) (n:Nat) (f:Nat->E6) (q m kk:Nat) (tt:Int) (g:Nat->E6) (th lo r:Nat->Int) (x:Nat->Ev5) (pl:Int->Int):CU (Rx a n f q m kk tt g th lo r x pl) [(7,iV 0)] = Ls a n f 0 kk tt g x r (λ_=>0) (λ_ _=>0) (λi=>nth (Rx a n f q m kk tt g th lo r x pl).t i):=by kernel_rfl
theorem Aj5 (G:Nat->E6):upE 0 G = λ_=>zE:=by funext i; simp [upE]
theorem AdS (n:Nat) (g:Nat->E6):upX n g 0 = λ_=>⟨0,0,0,0,0⟩:=by funext i; simp [upX]
theorem Ali (n:Nat) (g:Nat->E6):plM n g 0 = λ_=>0:=rfl
theorem AaS (n:Nat) (g:Nat->E6):dnF n g (Bz (mbF g) n) 0 0 = λ_=>false:=by
 funext j
 unfold dnF
 rw [AaR]
 simp
theorem VG (n:Nat) (g:Nat->E6):upX n g n = evF n g (dnF n g (Bz (mbF g) n) 0 0):=by
 rw [AaS]
 funext i
 unfold upX
 by_cases hi:i < n
 ·rw [decide_eq_true hi]; rfl
 ·rw [decide_eq_false hi]
  unfold evF
  rw [decide_eq_false hi]
  rfl
theorem Ak0 (n:Nat) (g:Nat->E6):rfF n g (dnF n g (Bz (mbF g) n) 0 0) = λ_=>-1:=by
 rw [AaS]
 rfl
def AkV (n:Nat) (g:Nat->E6):List Blk:=[.row 44 6 n (λi=>eV (g i)),.row 40 5 n (λi=>evV (evF n g (dnF n g (Bz (mbF g) n) n 0) i)),.row 3 1 n (λi=>iV (rfF n g (dnF n g (Bz (mbF g) n) n 0) i)),
 .jag ⟨25,1,kkN n g,λ_=>.nilS,0,3,1,λ_=>true,lnP n g n 0,λk i=>iV (coP n g n 0 k i)⟩]
theorem Ah8 {n:Nat} {g:Nat->E6} (hk:0 < kkN n g):A8 (AkV n g) (Ur n g):=by
 have hn:0 < n:=by
  rcases Nat.eq_zero_or_pos n with h0 | h0
  ·subst h0; simp [kkN,Al] at hk
  ·exact h0
 obtain ⟨k0,hk0,hm⟩:=IW hk
 have hd:∀ i,i < n->dnF n g (Bz (mbF g) n) n 0 i = true:=λi hi=>by
  unfold dnF
  rw [decide_eq_true hi,T7]
  ·rfl
  ·exact Gk hn
 refine .cons (λ_ _=>rfl) (.cons (λi hi=>?_) (.cons (λi hi=>?_) (.consB (.jag (λ_ _=>.inr rfl) (λ_ _=>rfl) (λk hk'=>?_) (λk hk' q hq=>?_)) (.refl []))))
 ·rw [Cg hi,Cg hi,hd i hi]
 ·unfold rfF
  rw [hd i hi]
 ·have hk':k < kkN n g:=hk'
  have:=(Gx hk').1
  show lnN _ _ n k = lnP n g n 0 k
  unfold lnP
  rw [if_pos hk',if_pos this]
 ·have hk':k < kkN n g:=hk'
  have hq:q < lnP n g n 0 k:=hq
  show iV _ = iV _
  unfold coP
  rw [if_pos hq]
theorem AfN {a:Int} {n:Nat} {f:Nat->E6} (h8:Bj n = true) (hc:ieq (CV a n f) 0 = true) :
  (Ar (Ai tab (XY a n f) Try.f14 [iV a,Az n f] [])).sem = some (.tup [Uq a n (shG n f),iV 0,iV 0],AkV n (shG n f)):=by
 have hy:=Ek hc
 have hlo:=hy.lo
 have hhi:=hy.hi
 have hL:=DL Aiz (Aeu a n f)
 obtain ⟨z1,z2,z3,z4⟩:=Q3 hy
 have hg:=Gy hy
 have hko:rN (obF (shG n f)) n n = ttN n (shG n f):=QF hg.outer
 have hkm:rN (mbF (shG n f)) n n = kkN n (shG n f):=QF hg.moves
 have hkl:kkN n (shG n f) <= n:=Be _ _
 have c1:Ak (ilt 0 (ofNat n)) (Ak (DZ n) (CG 8 (ofNat n) (ofNat n))) = true:=by
  unfold Ak ilt DZ CG
  simp only [Int.ofNat_eq_natCast,Bool.and_eq_true,decide_eq_true_eq]
  omega
 have c2:CG 24 (ofNat (kkN n (shG n f))) (ofNat (kkN n (shG n f))) = true:=by
  unfold CG
  simp only [Int.ofNat_eq_natCast,Bool.and_eq_true,decide_eq_true_eq]
  omega
 have hm:∃ k,k < n ∧ mbF (shG n f) k = true:=IW (p:=mbF (shG n f)) (by have:=hg.moves; show 0 < Al (λk=>Aw (shG n f k)) n; omega)
 unfold XY
 refine A2 (As (As (As (As hL hL) hL) hL) hL) _ (AmO _ _ _ _ _ a n f (shQ n f) n (kkN n (shG n f)) (ofNat (ttN n (shG n f))) (shG n f) (thF n (shG n f)) (loF n (shG n f)) (λ_=>-1) (upX n (shG n f) n) (plM n (shG n f) n)
  (evF n (shG n f) (dnF n (shG n f) (Bz (mbF (shG n f)) n) n 0)) (rfF n (shG n f) (dnF n (shG n f) (Bz (mbF (shG n f)) n) n 0)) (lnP n (shG n f) n 0) (coP n (shG n f) n 0) h8 hc hy.may c1 E5 c2 (Aj ?_) (Aj ?_) (Aj ?_) (Aj ?_))
 ·show (A4 _ (ZL a n f) (n+1) _).sem = _
  exact Aej _ a n f (by omega) _ z1 z2 z3 _ 0 _ (n+1) (Nat.zero_add _).symm (by omega)
 ·show (A4 _ (Oc a n f) (n+1) (CU _ [(3,eV zE)])).sem = _
  rw [Aaz]
  have h:=λL j=>Zs L a n f hhi (shQ n f) z4 n 0 j (n+1) (by omega) (by omega)
  rw [Aj5] at h
  exact h _ _
 ·show (A4 _ (Ob a n f) (n+1) (CU _ [(4,evV ⟨0,0,0,0,0⟩),(5,iV (-1))])).sem = _
  rw [Aay]
  have h:=λL j=>Zr L a n f hhi (shG n f) n 0 j (n+1) (by omega) (by omega)
  rw [AdS,Ali,hko,hkm] at h
  exact h _ _
 ·show (A4 _ (J3 a n f) (n+1) (CU _ [(7,iV 0)])).sem = _
  rw [Aax]
  have h:=λL j=>Zq L a n f hhi (shG n f) (ofNat (ttN n (shG n f))) hm n 0 j (n+1) (by omega) (by omega)
  rw [<- VG,Ak0,Aex,AlQ] at h
  exact h _ _
theorem p14:A7 Try.prog Gl 14 ofT:=by
 refine Av AL AN Try.func14 (by kernel_rfl) (by kernel_rfl) λvs v h' h=>?_
 unfold ofT at h
 split at h
 ·rename_i a u
  obtain ⟨n,f,ha,h1⟩:=Ci h
  obtain ⟨h8,hq⟩:=Ad h1
  have hA:Bp [iV a,u] [iV a,Az n f]:=λS w cs hv=>by
   obtain ⟨c,l,rfl,q1,d,l',rfl,q2,q3⟩:=hv
   exact ⟨c,_,rfl,q1,d,l',rfl,ha S w d q2,q3⟩
  have hx:Bk Try.prog (XY a n f).base ∧ BM (XY a n f):=⟨Yf,SQ rfl⟩
  cases hc:ieq (CV a n f) 0 with
  | true =>
   rw [hc] at hq
   have:=Ac hq
   simp only [Prod.mk.injEq] at this
   obtain ⟨rfl,rfl⟩:=this
   have hg:=Gy (Ek hc)
   have hm:=hg.moves
   exact ⟨_,XY a n f,_,hA,rfl,hx.1,hx.2,AfN h8 hc,Ah8 (by show 0 < Al (λk=>Aw (shG n f k)) n; omega)⟩
  | false =>
   rw [hc] at hq
   have:=Ac hq
   simp only [Prod.mk.injEq] at this
   obtain ⟨rfl,rfl⟩:=this
   exact ⟨_,XY a n f,_,hA,rfl,hx.1,hx.2,AmP _ a n f h8 hc,A8.refl _⟩
 ·cases h
end Go.Proofs.Ytjhnfomefcngfaa.Sh
