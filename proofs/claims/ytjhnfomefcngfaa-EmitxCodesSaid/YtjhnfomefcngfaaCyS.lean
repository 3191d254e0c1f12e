/-
  Check, the program's and the document's: one answer. No conditions.
-/
import Derived.Test.YtjhnfomefcngfaaCyR
namespace Go.Proofs.Ytjhnfomefcngfaa.Ed
open Go.Sy
open Int (ofNat)
abbrev U:V:=.und
noncomputable def Dc:List (Nat × (List V->T (V × List Blk))):=(64,BO λe=>iV (Bb e)) :: (65,ap2 gI toE λa e=>out (SU a e)) :: (22,BO λe=>bV (Ax e)) :: (23,BO λe=>bV (Aw e)) :: (66,QL) :: (67,QK) :: (68,Abh) :: []
theorem Qq:AA Try.prog Gl Dc:=.cons p29 <| .cons p33 <| .cons p60 <| .cons p61 <| .cons p94 <| .cons p95 <| .cons p96 .nil
def Im (n:Nat) (f:Nat->E6):Int:=ofNat (Al (λk=>Ax (f k)) n)
def JC (n:Nat) (f:Nat->E6):Int:=ofNat (Al (λk=>Aw (f k)) n)
def JD (n:Nat) (f:Nat->E6):Int × Int :=
 match crR n (A0 (λk=>Aw (f k)) n) (λi=>isW (f i)) 2 with
 | (i,true)=>(44,i)
 | (_,false)=>match crR n (A0 (λk=>Ax (f k)) n) (λ_=>true) 12 with
   | (i,true)=>(45,i)
   | (_,false)=>(0,0)
def Fi (n:Nat) (f:Nat->E6):Int × Int :=
 match ilt (Im n f) 2,ilt (JC n f) 2 with
 | true,_=>(42,0)
 | false,true=>(43,0)
 | false,false=>JD n f
def JE (a:Int) (n:Nat) (f:Nat->E6):Int × Int :=
 match ilt (ofNat n) 2,ilt 16 (ofNat n) with
 | true,_=>(40,0)
 | false,true=>(40,0)
 | false,false=>match D6 a n f,ieq (D6 a n f).1 0 with
  | r,false=>r
  | _,true=>Fi n f
def R6 (a:Int) (n:Nat) (f:Nat->E6):Int × Int :=
 match ieq a 1,ieq a 2 with
 | false,false=>(1,0)
 | _,_=>JE a n f
def Yb:List V->T (V × List Blk)
 | [.val (.int .i64 a),v]=>apL v λn f=>.br (Bj n) (out (.tup [iV (R6 a n f).1,iV (R6 a n f).2])) .fail
 | _=>.fail
theorem AdB {a:Int} {n:Nat} {f:Nat->E6} (h:ieq a 1 = true ∨ ieq a 2 = true):R6 a n f = JE a n f:=by
 unfold R6
 rcases h with h | h
 ·rw [h]
 ·rw [h]
  cases ieq a 1 <;> rfl
def Km (n:Nat) (_:Nat->E6):Lp:=⟨(bmK 133 0 [0,1,4,5,6,7,8,9]),0,bmK 133 0 [1,4,5,6,7,8],0,n+1⟩
def EX (n:Nat) (f:Nat->E6) (x y:Int) (i:Nat) (j:Nat->V):St:=⟨(jsV 133 0 j [(0,iV 1),(1,.sl 6 n (λi=>eV (f i))),(4,iV 0),(5,iV 0),(6,nV n),(7,iV x),(8,iV y),(9,nV i)]),[]⟩
def BZ (n:Nat) (f:Nat->E6) (x y:Int) (_:Nat):Ex × St:=(.ex 0,⟨(jsV 133 0 (λ_=>.und) [(1,.sl 6 n (λi=>eV (f i))),(4,iV 0),(5,iV 0),(6,nV n),(7,iV x),(8,iV y)]),[]⟩)
def Vn (n:Nat) (f:Nat->E6) (x y:Int) (i:Nat):Ex × St:=(.rt,⟨(jsV 133 0 (λ_=>.und) [(1,.sl 6 n (λi=>eV (f i))),(4,iV 30),(5,nV i),(6,nV n),(7,iV x),(8,iV y)]),[]⟩)
def Vm (n:Nat) (f:Nat->E6) (x y:Int) (i:Nat):Ex × St:=(.rt,⟨(jsV 133 0 (λ_=>.und) [(1,.sl 6 n (λi=>eV (f i))),(4,iV 5),(5,nV i),(6,nV n),(7,iV x),(8,iV y)]),[]⟩)
noncomputable def C6 (L:LT):St->T (Ex × St):=λst=>AC tab ⟨Am Dc,L,Gl⟩ (Au Try.f19 0) 0 st
section
variable (L:LT) (n:Nat) (f:Nat->E6) (x y:Int) (i:Nat)  (j:Nat->V)
include L n f x y i j
theorem AhB (h0:ilt (ofNat i) (ofNat n) = false):Ah (C6 L) (Km n f) (EX n f x y i j) = some ((.ex 0),⟨(jsV 133 0 (λ_=>.und) [(1,(.sl 6 n (λi=>(eV (f i))))),(4,(iV 0)),(5,(iV 0)),(6,(nV n)),(7,(iV x)),(8,(iV y))]),[]⟩):=by
 exact Aa (ks:=[kn h0]) (by kernel_rfl)
theorem AhA (h0:ilt (ofNat i) (ofNat n) = true) (h1:Ak (ile 0 (ofNat i)) (ilt (ofNat i) (ofNat n)) = true) (h2:ieq (Bb (f i)) 0 = false):Ah (C6 L) (Km n f) (EX n f x y i j) = some (.rt,⟨(jsV 133 0 (λ_=>.und) [(1,(.sl 6 n (λi=>(eV (f i))))),(4,(iV 30)),(5,(nV i)),(6,(nV n)),(7,(iV x)),(8,(iV y))]),[]⟩):=by
 exact Aa (ks:=[kn h0,kn h1,kN (kn h2)]) (by kernel_rfl)
theorem Ah9 (h0:ilt (ofNat i) (ofNat n) = true) (h1:Ak (ile 0 (ofNat i)) (ilt (ofNat i) (ofNat n)) = true) (h2:ieq (Bb (f i)) 0 = true) (h3:Hm 1 (f i) = false):Ah (C6 L) (Km n f) (EX n f x y i j) = some (.rt,⟨(jsV 133 0 (λ_=>.und) [(1,(.sl 6 n (λi=>(eV (f i))))),(4,(iV 5)),(5,(nV i)),(6,(nV n)),(7,(iV x)),(8,(iV y))]),[]⟩):=by
 exact Aa (ks:=[kn h0,kn h1,kN (kn h2),kn h1,kN (kn h3)]) (by kernel_rfl)
theorem Acx (h0:ilt (ofNat i) (ofNat n) = true) (h1:Ak (ile 0 (ofNat i)) (ilt (ofNat i) (ofNat n)) = true) (h2:ieq (Bb (f i)) 0 = true) (h3:Hm 1 (f i) = true) (h4:Ax (f i) = false) (h5:Aw (f i) = false):Ah (C6 L) (Km n f) (EX n f x y i j) = some (.nm,⟨(jsV 133 0 (λ_=>.und) [(0,(iV 1)),(1,(.sl 6 n (λi=>(eV (f i))))),(4,(iV 0)),(5,(iV 0)),(6,(nV n)),(7,(iV x)),(8,(iV y)),(9,(iV (wr .i64 (Af (ofNat i) 1))))]),[]⟩):=by
 exact Aa (ks:=[kn h0,kn h1,kN (kn h2),kn h1,kN (kn h3),kn h1,kn h4,kn h1,kn h5]) (by kernel_rfl)
theorem Acy (h0:ilt (ofNat i) (ofNat n) = true) (h1:Ak (ile 0 (ofNat i)) (ilt (ofNat i) (ofNat n)) = true) (h2:ieq (Bb (f i)) 0 = true) (h3:Hm 1 (f i) = true) (h4:Ax (f i) = false) (h5:Aw (f i) = true):Ah (C6 L) (Km n f) (EX n f x y i j) = some (.nm,⟨(jsV 133 0 (λ_=>.und) [(0,(iV 1)),(1,(.sl 6 n (λi=>(eV (f i))))),(4,(iV 0)),(5,(iV 0)),(6,(nV n)),(7,(iV x)),(8,(iV (wr .i64 (Af y 1)))),(9,(iV (wr .i64 (Af (ofNat i) 1))))]),[]⟩):=by
 exact Aa (ks:=[kn h0,kn h1,kN (kn h2),kn h1,kN (kn h3),kn h1,kn h4,kn h1,kn h5]) (by kernel_rfl)
theorem Acv (h0:ilt (ofNat i) (ofNat n) = true) (h1:Ak (ile 0 (ofNat i)) (ilt (ofNat i) (ofNat n)) = true) (h2:ieq (Bb (f i)) 0 = true) (h3:Hm 1 (f i) = true) (h4:Ax (f i) = true) (h5:Aw (f i) = false):Ah (C6 L) (Km n f) (EX n f x y i j) = some (.nm,⟨(jsV 133 0 (λ_=>.und) [(0,(iV 1)),(1,(.sl 6 n (λi=>(eV (f i))))),(4,(iV 0)),(5,(iV 0)),(6,(nV n)),(7,(iV (wr .i64 (Af x 1)))),(8,(iV y)),(9,(iV (wr .i64 (Af (ofNat i) 1))))]),[]⟩):=by
 exact Aa (ks:=[kn h0,kn h1,kN (kn h2),kn h1,kN (kn h3),kn h1,kn h4,kn h1,kn h5]) (by kernel_rfl)
theorem Acw (h0:ilt (ofNat i) (ofNat n) = true) (h1:Ak (ile 0 (ofNat i)) (ilt (ofNat i) (ofNat n)) = true) (h2:ieq (Bb (f i)) 0 = true) (h3:Hm 1 (f i) = true) (h4:Ax (f i) = true) (h5:Aw (f i) = true):Ah (C6 L) (Km n f) (EX n f x y i j) = some (.nm,⟨(jsV 133 0 (λ_=>.und) [(0,(iV 1)),(1,(.sl 6 n (λi=>(eV (f i))))),(4,(iV 0)),(5,(iV 0)),(6,(nV n)),(7,(iV (wr .i64 (Af x 1)))),(8,(iV (wr .i64 (Af y 1)))),(9,(iV (wr .i64 (Af (ofNat i) 1))))]),[]⟩):=by
 exact Aa (ks:=[kn h0,kn h1,kN (kn h2),kn h1,kN (kn h3),kn h1,kn h4,kn h1,kn h5]) (by kernel_rfl)
end
def M0 (n:Nat) (f:Nat->E6) :Nat->V:=lkV A9 [(17,(iV 1)),(18,(bV (AG (ieq 1 1)))),(19,(bV (AG (ieq 1 1)))),(22,(bV false)),(23,(.sl 6 n (λi=>eV (f i)))),(24,(nV n)),(25,(nV n)),(26,(bV (ilt (ofNat n) 2))),(27,(bV (ilt (ofNat n) 2))),(28,(nV n)),(29,(bV (ilt 16 (ofNat n)))),(30,(bV (ilt 16 (ofNat n))))]
def Kr (n:Nat) (_:Nat->E6):Lp:=⟨(bmK 133 0 [1,4,5,6,7,8,12]),0,bmK 133 0 [1,4,5,6,7,8],0,n+1⟩
def Es (n:Nat) (f:Nat->E6) (x y:Int) (i:Nat) (j:Nat->V):St:=⟨(jsV 133 0 j [(1,.sl 6 n (λi=>eV (f i))),(4,iV 0),(5,iV 0),(6,nV n),(7,iV x),(8,iV y),(12,nV i)]),[]⟩
def B6 (n:Nat) (f:Nat->E6) (x y:Int) (_:Nat):Ex × St:=(.ex 2,⟨(jsV 133 0 (λ_=>.und) [(1,.sl 6 n (λi=>eV (f i))),(4,iV 0),(5,iV 0),(6,nV n),(7,iV x),(8,iV y)]),[]⟩)
def KI (n:Nat) (f:Nat->E6) (x y:Int) (i:Nat):Ex × St:=(.rt,⟨(jsV 133 0 (λ_=>.und) [(1,.sl 6 n (λi=>eV (f i))),(4,iV 41),(5,nV i),(6,nV n),(7,iV x),(8,iV y)]),[]⟩)
noncomputable def CX (L:LT):St->T (Ex × St):=λst=>AC tab ⟨Am Dc,L,Gl⟩ (Au Try.f19 2) 2 st
section
variable (L:LT) (n:Nat) (f:Nat->E6) (x y:Int) (i:Nat)  (j:Nat->V)
include L n f x y i j
theorem Ah4 (h0:ilt (ofNat i) (ofNat n) = false):Ah (CX L) (Kr n f) (Es n f x y i j) = some ((.ex 2),⟨(jsV 133 0 (λ_=>.und) [(1,(.sl 6 n (λi=>(eV (f i))))),(4,(iV 0)),(5,(iV 0)),(6,(nV n)),(7,(iV x)),(8,(iV y))]),[]⟩):=by
 exact Aa (ks:=[kn h0]) (by kernel_rfl)
theorem Ah3 (h0:ilt (ofNat i) (ofNat n) = true) (h1:Ak (ile 0 (ofNat i)) (ilt (ofNat i) (ofNat n)) = true) (h2:ieq (ofNat n) 0 = false) (h3:Ak (ile 0 (Ae (wr .i64 (Af (ofNat i) 1)) (ofNat n))) (ilt (Ae (wr .i64 (Af (ofNat i) 1)) (ofNat n)) (ofNat n)) = true) (h4:ieq ((f i)).dst ((f (toN (Ae (wr .i64 (Af (ofNat i) 1)) (ofNat n))))).src = false):Ah (CX L) (Kr n f) (Es n f x y i j) = some (.rt,⟨(jsV 133 0 (λ_=>.und) [(1,(.sl 6 n (λi=>(eV (f i))))),(4,(iV 41)),(5,(nV i)),(6,(nV n)),(7,(iV x)),(8,(iV y))]),[]⟩):=by
 exact Aa (ks:=[kn h0,kn h1,kn h2,kn h3,kN (kn h4)]) (by kernel_rfl)
theorem Ah2 (h0:ilt (ofNat i) (ofNat n) = true) (h1:Ak (ile 0 (ofNat i)) (ilt (ofNat i) (ofNat n)) = true) (h2:ieq (ofNat n) 0 = false) (h3:Ak (ile 0 (Ae (wr .i64 (Af (ofNat i) 1)) (ofNat n))) (ilt (Ae (wr .i64 (Af (ofNat i) 1)) (ofNat n)) (ofNat n)) = true) (h4:ieq ((f i)).dst ((f (toN (Ae (wr .i64 (Af (ofNat i) 1)) (ofNat n))))).src = true):Ah (CX L) (Kr n f) (Es n f x y i j) = some (.nm,⟨(jsV 133 0 (λ_=>.und) [(1,(.sl 6 n (λi=>(eV (f i))))),(4,(iV 0)),(5,(iV 0)),(6,(nV n)),(7,(iV x)),(8,(iV y)),(12,(iV (wr .i64 (Af (ofNat i) 1))))]),[]⟩):=by
 exact Aa (ks:=[kn h0,kn h1,kn h2,kn h3,kN (kn h4)]) (by kernel_rfl)
end
def IO (_:Nat) (_:Nat->E6) (_ _:Int) (_:Nat):Nat->V:=lkV A9 [(0,.und),(2,.und),(3,.und),(9,.und),(10,.und),(11,.und),(13,.und),(14,.und),(15,.und),(16,.und),(17,.und),(18,.und),(19,.und),(20,.und),(21,.und),(22,.und),(23,.und),(24,.und),(25,.und),(26,.und),(27,.und),(28,.und),(29,.und),(30,.und),(31,.und),(32,.und),(33,.und),(34,.und),(35,.und),(36,.und),(37,.und),(38,.und),(39,.und),(40,.und),(41,.und),(42,.und),(43,.und),(44,.und),(45,.und),(46,.und),(47,.und),(48,.und),(49,.und),(50,.und),(51,.und),(52,.und),(53,.und),(54,.und),(55,.und),(56,.und),(57,.und),(58,.und),(59,.und),(60,.und),(61,.und),(62,.und),(63,.und),(64,.und),(65,.und),(66,.und),(67,.und),(68,.und),(69,.und),(70,.und),(71,.und),(72,.und),(73,.und),(74,.und),(75,.und),(76,.und),(77,.und),(78,.und),(79,.und),(80,.und),(81,.und),(82,.und),(83,.und),(84,.und),(85,.und),(86,.und),(87,.und),(88,.und),(89,.und),(90,.und),(91,.und),(92,.und),(93,.und),(94,.und),(95,.und),(96,.und),(97,.und),(98,.und),(99,.und),(100,.und),(101,.und),(102,.und),(103,.und),(104,.und),(105,.und),(106,.und),(107,.und),(108,.und),(109,.und),(110,.und),(111,.und),(112,.und),(113,.und),(114,.und),(115,.und),(116,.und),(117,.und),(118,.und),(119,.und),(120,.und),(121,.und),(122,.und),(123,.und),(124,.und),(125,.und),(126,.und),(127,.und),(128,.und),(129,.und),(130,.und),(131,.und),(132,.und)]
def IJ (n:Nat) (_:Nat->E6):Lp:=⟨(bmK 133 0 [1,4,5,6,13,14,15]),2,bmK 133 0 [1,4,5,6,13],2,n+1⟩
def FL (n:Nat) (f:Nat->E6) (u v:Nat->Int) (i:Nat) (j:Nat->V):St:=⟨(jsV 133 0 j [(1,.sl 6 n (λi=>eV (f i))),(4,iV 0),(5,iV 0),(6,nV n),(13,.ref 0),(14,.ref 1),(15,nV i)]),[.row 3 1 n (λk=>iV (u k)),.row 3 1 n (λk=>iV (v k))]⟩
def Dm (n:Nat) (f:Nat->E6) (u v:Nat->Int) (_:Nat):Ex × St:=(.ex 4,⟨(jsV 133 0 (λ_=>.und) [(1,.sl 6 n (λi=>eV (f i))),(4,iV 0),(5,iV 0),(6,nV n),(13,.ref 0)]),[.row 3 1 n (λk=>iV (u k)),.row 3 1 n (λk=>iV (v k))]⟩)
def Ik (n:Nat) (f:Nat->E6) (u v:Nat->Int) (i:Nat):Ex × St:=(.rt,⟨(jsV 133 0 (λ_=>.und) [(1,.sl 6 n (λi=>eV (f i))),(4,iV 44),(5,nV i),(6,nV n),(13,.ref 0)]),[.row 3 1 n (λk=>iV (u k)),.row 3 1 n (λk=>iV (v k))]⟩)
noncomputable def DM (L:LT):St->T (Ex × St):=λst=>AC tab ⟨Am Dc,L,Gl⟩ (Au Try.f19 4) 4 st
section
variable (L:LT) (n:Nat) (f:Nat->E6) (u v:Nat->Int) (i:Nat)  (j:Nat->V)
include L n f u v i j
theorem AgR (h0:ilt (ofNat i) (ofNat n) = false):Ah (DM L) (IJ n f) (FL n f u v i j) = some ((.ex 4),⟨(jsV 133 0 (λ_=>.und) [(1,(.sl 6 n (λi=>(eV (f i))))),(4,(iV 0)),(5,(iV 0)),(6,(nV n)),(13,(.ref 0))]),[(.row 3 1 n (λk=>(iV (u k)))),(.row 3 1 n (λk=>(iV (v k))))]⟩):=by
 exact Aa (ks:=[kn h0]) (by kernel_rfl)
theorem AgU (h0:ilt (ofNat i) (ofNat n) = true) (h1:Ak (ile 0 (ofNat i)) (ilt (ofNat i) (ofNat n)) = true) (h2:ieq ((f i)).src 2 = false):Ah (DM L) (IJ n f) (FL n f u v i j) = some (.nm,⟨(jsV 133 0 (λ_=>.und) [(1,(.sl 6 n (λi=>(eV (f i))))),(4,(iV 0)),(5,(iV 0)),(6,(nV n)),(13,(.ref 0)),(14,(.ref 1)),(15,(iV (wr .i64 (Af (ofNat i) 1))))]),[(.row 3 1 n (λk=>(iV (u k)))),(.row 3 1 n (λk=>(iV (v k))))]⟩):=by
 exact Aa (ks:=[kn h0,kn h1,kn h2,kn h2,kn h2,kn h2,kn h2,kn h2,kn h2,kn h2,kn h2,kF]) (by kernel_rfl)
theorem AgT (h0:ilt (ofNat i) (ofNat n) = true) (h1:Ak (ile 0 (ofNat i)) (ilt (ofNat i) (ofNat n)) = true) (h2:ieq ((f i)).src 2 = true) (h15:nlt i n = true) (h3:AD n n = true) (h4:Ag n = true) (h5:ilt 2 (Gr n v (λi=>(bor (AG true) (isW (f i)))) (v i)) = false):Ah (DM L) (IJ n f) (FL n f u v i j) = some (.nm,⟨(jsV 133 0 (λ_=>.und) [(1,(.sl 6 n (λi=>(eV (f i))))),(4,(iV 0)),(5,(iV 0)),(6,(nV n)),(13,(.ref 0)),(14,(.ref 1)),(15,(iV (wr .i64 (Af (ofNat i) 1))))]),[(.row 3 1 n (λk=>(iV (u k)))),(.row 3 1 n (λk=>(iV (v k))))]⟩):=by
 exact Aa (ks:=[kn h0,kn h1,kn h2,kn h2,kn h2,kn h2,kn h2,kn h1,kn h2,kn h15,kn h2,kL n,kL n,kn h3,kn h4,kn h2,kn h2,kn h5]) (by kernel_rfl)
theorem AgS (h0:ilt (ofNat i) (ofNat n) = true) (h1:Ak (ile 0 (ofNat i)) (ilt (ofNat i) (ofNat n)) = true) (h2:ieq ((f i)).src 2 = true) (h15:nlt i n = true) (h3:AD n n = true) (h4:Ag n = true) (h5:ilt 2 (Gr n v (λi=>(bor (AG true) (isW (f i)))) (v i)) = true):Ah (DM L) (IJ n f) (FL n f u v i j) = some (.rt,⟨(jsV 133 0 (λ_=>.und) [(1,(.sl 6 n (λi=>(eV (f i))))),(4,(iV 44)),(5,(nV i)),(6,(nV n)),(13,(.ref 0))]),[(.row 3 1 n (λk=>(iV (u k)))),(.row 3 1 n (λk=>(iV (v k))))]⟩):=by
 exact Aa (ks:=[kn h0,kn h1,kn h2,kn h2,kn h2,kn h2,kn h2,kn h1,kn h2,kn h15,kn h2,kL n,kL n,kn h3,kn h4,kn h2,kn h2,kn h5]) (by kernel_rfl)
end
def Rh (n:Nat) (f:Nat->E6) (x y:Int) (_ _:Nat):Nat->V:=lkV A9 [(0,.und),(2,.und),(3,.und),(7,(iV x)),(8,(iV y)),(9,.und),(10,.und),(11,.und),(12,.und),(16,.und),(17,.und),(18,.und),(19,.und),(20,.und),(21,.und),(22,.und),(23,.und),(24,.und),(25,.und),(26,.und),(27,.und),(28,.und),(29,.und),(30,.und),(31,.und),(32,.und),(33,.und),(34,.und),(35,.und),(36,.und),(37,.und),(38,.und),(39,.und),(40,.und),(41,.und),(42,.und),(43,.und),(44,.und),(45,.und),(46,.und),(47,.und),(48,.und),(49,.und),(50,.und),(51,.und),(52,.und),(53,.und),(54,.und),(55,.und),(56,.und),(57,.und),(58,.und),(59,.und),(60,.und),(61,.und),(62,.und),(63,.und),(64,.und),(65,.und),(66,.und),(67,.und),(68,.und),(69,.und),(70,.und),(71,.und),(72,.und),(73,.und),(74,.und),(75,.und),(76,.und),(77,.und),(78,.und),(79,.und),(80,.und),(81,.und),(82,.und),(83,.und),(84,.und),(85,.und),(86,.und),(87,.und),(88,.und),(89,(iV x)),(90,(bV (ilt x 2))),(91,(iV y)),(92,(bV (ilt y 2))),(93,(.sl 6 n (λi=>eV (f i)))),(94,(.ref 0)),(95,(.sl 6 n (λi=>eV (f i)))),(96,(.ref 1)),(97,.und),(98,.und),(99,.und),(100,.und),(101,.und),(102,.und),(103,.und),(104,.und),(105,.und),(106,.und),(107,.und),(108,.und),(109,.und),(110,.und),(111,.und),(112,.und),(113,.und),(114,.und),(115,.und),(116,.und),(117,.und),(118,.und),(119,.und),(120,.und),(121,.und),(122,.und),(123,.und),(124,.und),(125,.und),(126,.und),(127,.und),(128,.und),(129,.und),(130,.und),(131,.und),(132,.und)]
def Kp (n:Nat) (_:Nat->E6):Lp:=⟨(bmK 133 0 [1,4,5,6,13,16]),2,bmK 133 0 [4,5],0,n+1⟩
def I2 (n:Nat) (f:Nat->E6) (u v:Nat->Int) (i:Nat) (j:Nat->V):St:=⟨(jsV 133 0 j [(1,.sl 6 n (λi=>eV (f i))),(4,iV 0),(5,iV 0),(6,nV n),(13,.ref 0),(16,nV i)]),[.row 3 1 n (λk=>iV (u k)),.row 3 1 n (λk=>iV (v k))]⟩
def GC (_:Nat) (_:Nat->E6) (_ _:Nat->Int) (_:Nat):Ex × St:=(.ex 6,⟨(jsV 133 0 (λ_=>.und) [(4,iV 0),(5,iV 0)]),[]⟩)
def GD (_:Nat) (_:Nat->E6) (_ _:Nat->Int) (i:Nat):Ex × St:=(.rt,⟨(jsV 133 0 (λ_=>.und) [(4,iV 45),(5,nV i)]),[]⟩)
noncomputable def Fs (L:LT):St->T (Ex × St):=λst=>AC tab ⟨Am Dc,L,Gl⟩ (Au Try.f19 6) 6 st
section
variable (L:LT) (n:Nat) (f:Nat->E6) (u v:Nat->Int) (i:Nat)  (j:Nat->V)
include L n f u v i j
theorem Ag8 (h0:ilt (ofNat i) (ofNat n) = false):Ah (Fs L) (Kp n f) (I2 n f u v i j) = some ((.ex 6),⟨(jsV 133 0 (λ_=>.und) [(4,(iV 0)),(5,(iV 0))]),[]⟩):=by
 exact Aa (ks:=[kn h0]) (by kernel_rfl)
theorem AgA (h0:ilt (ofNat i) (ofNat n) = true) (h1:Ak (ile 0 (ofNat i)) (ilt (ofNat i) (ofNat n)) = true) (h14:nlt i n = true) (h2:AD n n = true) (h3:Ag n = true) (h4:ilt 12 (Gr n u (λi=>(bor (AG false) (isW (f i)))) (u i)) = false):Ah (Fs L) (Kp n f) (I2 n f u v i j) = some (.nm,⟨(jsV 133 0 (λ_=>.und) [(1,(.sl 6 n (λi=>(eV (f i))))),(4,(iV 0)),(5,(iV 0)),(6,(nV n)),(13,(.ref 0)),(16,(iV (wr .i64 (Af (ofNat i) 1))))]),[(.row 3 1 n (λk=>(iV (u k)))),(.row 3 1 n (λk=>(iV (v k))))]⟩):=by
 exact Aa (ks:=[kn h0,kn h1,kn h14,kL n,kL n,kn h2,kn h3,kn h4]) (by kernel_rfl)
theorem Ag9 (h0:ilt (ofNat i) (ofNat n) = true) (h1:Ak (ile 0 (ofNat i)) (ilt (ofNat i) (ofNat n)) = true) (h14:nlt i n = true) (h2:AD n n = true) (h3:Ag n = true) (h4:ilt 12 (Gr n u (λi=>(bor (AG false) (isW (f i)))) (u i)) = true):Ah (Fs L) (Kp n f) (I2 n f u v i j) = some (.rt,⟨(jsV 133 0 (λ_=>.und) [(4,(iV 45)),(5,(nV i))]),[]⟩):=by
 exact Aa (ks:=[kn h0,kn h1,kn h14,kL n,kL n,kn h2,kn h3,kn h4]) (by kernel_rfl)
end
def W2 (_:Nat) (_:Nat->E6) (_ _:Int) (_ _:Nat) (_ _:Nat->Int) (_:Nat):Nat->V:=lkV A9 [(0,.und),(2,.und),(3,.und),(7,.und),(8,.und),(9,.und),(10,.und),(11,.und),(12,.und),(14,.und),(15,.und),(17,.und),(18,.und),(19,.und),(20,.und),(21,.und),(22,.und),(23,.und),(24,.und),(25,.und),(26,.und),(27,.und),(28,.und),(29,.und),(30,.und),(31,.und),(32,.und),(33,.und),(34,.und),(35,.und),(36,.und),(37,.und),(38,.und),(39,.und),(40,.und),(41,.und),(42,.und),(43,.und),(44,.und),(45,.und),(46,.und),(47,.und),(48,.und),(49,.und),(50,.und),(51,.und),(52,.und),(53,.und),(54,.und),(55,.und),(56,.und),(57,.und),(58,.und),(59,.und),(60,.und),(61,.und),(62,.und),(63,.und),(64,.und),(65,.und),(66,.und),(67,.und),(68,.und),(69,.und),(70,.und),(71,.und),(72,.und),(73,.und),(74,.und),(75,.und),(76,.und),(77,.und),(78,.und),(79,.und),(80,.und),(81,.und),(82,.und),(83,.und),(84,.und),(85,.und),(86,.und),(87,.und),(88,.und),(89,.und),(90,.und),(91,.und),(92,.und),(93,.und),(94,.und),(95,.und),(96,.und),(97,.und),(98,.und),(99,.und),(100,.und),(101,.und),(102,.und),(103,.und),(104,.und),(105,.und),(106,.und),(107,.und),(108,.und),(109,.und),(110,.und),(111,.und),(112,.und),(113,.und),(114,.und),(115,.und),(116,.und),(117,.und),(118,.und),(119,.und),(120,.und),(121,.und),(122,.und),(123,.und),(124,.und),(125,.und),(126,.und),(127,.und),(128,.und),(129,.und),(130,.und),(131,.und),(132,.und)]
section
variable (L:LT) (p0:PT) (n:Nat) (f:Nat->E6) (x y:Int) (i:Nat)
include L p0 n f x y i
theorem Afb (h0:ilt (ofNat n) 2 = false) (h1:ilt 16 (ofNat n) = false) (hp0:p0 (C6 (onP 0 p0 (Vn n f x y i) L)) (EX n f 0 0 0 (M0 n f )) = true):(Ar (Ai tab ⟨Am Dc,(onP 0 p0 (Vn n f x y i) L),Gl⟩ Try.f19 [iV 1,Az n f] [])).sem = some ((.tup [(iV 30),(nV i)]),[]):=by
 exact Aa (ks:=[kN (kI 1),kN (kI 1),kN (kI 1),kF,kn h0,kn h0,kn h0,kn h1,kn hp0]) (by kernel_rfl)
theorem Afa (h0:ilt (ofNat n) 2 = false) (h1:ilt 16 (ofNat n) = false) (hp0:p0 (C6 (onP 0 p0 (Vm n f x y i) L)) (EX n f 0 0 0 (M0 n f )) = true):(Ar (Ai tab ⟨Am Dc,(onP 0 p0 (Vm n f x y i) L),Gl⟩ Try.f19 [iV 1,Az n f] [])).sem = some ((.tup [(iV 5),(nV i)]),[]):=by
 exact Aa (ks:=[kN (kI 1),kN (kI 1),kN (kI 1),kF,kn h0,kn h0,kn h0,kn h1,kn hp0]) (by kernel_rfl)
end
section
variable (L:LT) (p0:PT) (p2:PT) (n:Nat) (f:Nat->E6) (x y:Int) (i:Nat) (i2:Nat)
include L p0 p2 n f x y i i2
theorem AeZ (h0:ilt (ofNat n) 2 = false) (h1:ilt 16 (ofNat n) = false) (hp0:p0 (C6 (onP 0 p0 (BZ n f x y i) (onP 2 p2 (KI n f x y i2) L))) (EX n f 0 0 0 (M0 n f )) = true) (hp2:p2 (CX (onP 0 p0 (BZ n f x y i) (onP 2 p2 (KI n f x y i2) L))) (Es n f x y 0 (IO n f x y i)) = true):(Ar (Ai tab ⟨Am Dc,(onP 0 p0 (BZ n f x y i) (onP 2 p2 (KI n f x y i2) L)),Gl⟩ Try.f19 [iV 1,Az n f] [])).sem = some ((.tup [(iV 41),(nV i2)]),[]):=by
 exact Aa (ks:=[kN (kI 1),kN (kI 1),kN (kI 1),kF,kn h0,kn h0,kn h0,kn h1,kn hp0,kn hp2]) (by kernel_rfl)
theorem AeY (h0:ilt (ofNat n) 2 = false) (h1:ilt 16 (ofNat n) = false) (h2:ilt x 2 = true) (hp0:p0 (C6 (onP 0 p0 (BZ n f x y i) (onP 2 p2 (B6 n f x y i2) L))) (EX n f 0 0 0 (M0 n f )) = true) (hp2:p2 (CX (onP 0 p0 (BZ n f x y i) (onP 2 p2 (B6 n f x y i2) L))) (Es n f x y 0 (IO n f x y i)) = true):(Ar (Ai tab ⟨Am Dc,(onP 0 p0 (BZ n f x y i) (onP 2 p2 (B6 n f x y i2) L)),Gl⟩ Try.f19 [iV 1,Az n f] [])).sem = some ((.tup [(iV 42),(iV 0)]),[]):=by
 exact Aa (ks:=[kN (kI 1),kN (kI 1),kN (kI 1),kF,kn h0,kn h0,kn h0,kn h1,kn hp0,kn hp2,kn h2]) (by kernel_rfl)
theorem AeV (h0:ilt (ofNat n) 2 = false) (h1:ilt 16 (ofNat n) = false) (h2:ilt x 2 = false) (h3:ilt y 2 = true) (hp0:p0 (C6 (onP 0 p0 (BZ n f x y i) (onP 2 p2 (B6 n f x y i2) L))) (EX n f 0 0 0 (M0 n f )) = true) (hp2:p2 (CX (onP 0 p0 (BZ n f x y i) (onP 2 p2 (B6 n f x y i2) L))) (Es n f x y 0 (IO n f x y i)) = true):(Ar (Ai tab ⟨Am Dc,(onP 0 p0 (BZ n f x y i) (onP 2 p2 (B6 n f x y i2) L)),Gl⟩ Try.f19 [iV 1,Az n f] [])).sem = some ((.tup [(iV 43),(iV 0)]),[]):=by
 exact Aa (ks:=[kN (kI 1),kN (kI 1),kN (kI 1),kF,kn h0,kn h0,kn h0,kn h1,kn hp0,kn hp2,kn h2,kn h3]) (by kernel_rfl)
end
abbrev pO (n:Nat) (f:Nat->E6):Nat->Int:=λk=>A0 (λk=>Ax (f k)) n k
abbrev pM (n:Nat) (f:Nat->E6):Nat->Int:=λk=>A0 (λk=>Aw (f k)) n k
theorem AeU (L:LT) (p0:PT) (p2:PT) (p4:PT) (n:Nat) (f:Nat->E6) (x y:Int) (i:Nat) (i2 i4:Nat) (h0:ilt (ofNat n) 2 = false) (h1:ilt 16 (ofNat n) = false) (h2:ilt x 2 = false) (h3:ilt y 2 = false) (h4:Bj n = true) (hp0:p0 (C6 (onP 0 p0 (BZ n f x y i) (onP 2 p2 (B6 n f x y i2) (onP 4 p4 (Ik n f (pO n f) (pM n f) i4) L)))) (EX n f 0 0 0 (M0 n f )) = true) (hp2:p2 (CX (onP 0 p0 (BZ n f x y i) (onP 2 p2 (B6 n f x y i2) (onP 4 p4 (Ik n f (pO n f) (pM n f) i4) L)))) (Es n f x y 0 (IO n f x y i)) = true) (hp4:p4 (DM (onP 0 p0 (BZ n f x y i) (onP 2 p2 (B6 n f x y i2) (onP 4 p4 (Ik n f (pO n f) (pM n f) i4) L)))) (FL n f (pO n f) (pM n f) 0 (Rh n f x y i i2)) = true):(Ar (Ai tab ⟨Am Dc,(onP 0 p0 (BZ n f x y i) (onP 2 p2 (B6 n f x y i2) (onP 4 p4 (Ik n f (pO n f) (pM n f) i4) L))),Gl⟩ Try.f19 [iV 1,Az n f] [])).sem = some ((.tup [(iV 44),(nV i4)]),[]):=by
 exact Aa (ks:=[kN (kI 1),kN (kI 1),kN (kI 1),kF,kn h0,kn h0,kn h0,kn h1,kn hp0,kn hp2,kn h2,kn h3,kL n,kn h4,kL n,kn h4,kn hp4]) (by kernel_rfl)
section
variable (L:LT) (p0:PT) (p2:PT) (p4:PT) (p6:PT) (n:Nat) (f:Nat->E6) (x y:Int) (i:Nat) (i2 i4 i6:Nat)
include L p0 p2 p4 p6 n f x y i i2 i4 i6
theorem Afc (h0:ilt (ofNat n) 2 = false) (h1:ilt 16 (ofNat n) = false) (h2:ilt x 2 = false) (h3:ilt y 2 = false) (h4:Bj n = true) (hp0:p0 (C6 (onP 0 p0 (BZ n f x y i) (onP 2 p2 (B6 n f x y i2) (onP 4 p4 (Dm n f (pO n f) (pM n f) i4) (onP 6 p6 (GD n f (pO n f) (pM n f) i6) L))))) (EX n f 0 0 0 (M0 n f )) = true) (hp2:p2 (CX (onP 0 p0 (BZ n f x y i) (onP 2 p2 (B6 n f x y i2) (onP 4 p4 (Dm n f (pO n f) (pM n f) i4) (onP 6 p6 (GD n f (pO n f) (pM n f) i6) L))))) (Es n f x y 0 (IO n f x y i)) = true) (hp4:p4 (DM (onP 0 p0 (BZ n f x y i) (onP 2 p2 (B6 n f x y i2) (onP 4 p4 (Dm n f (pO n f) (pM n f) i4) (onP 6 p6 (GD n f (pO n f) (pM n f) i6) L))))) (FL n f (pO n f) (pM n f) 0 (Rh n f x y i i2)) = true) (hp6:p6 (Fs (onP 0 p0 (BZ n f x y i) (onP 2 p2 (B6 n f x y i2) (onP 4 p4 (Dm n f (pO n f) (pM n f) i4) (onP 6 p6 (GD n f (pO n f) (pM n f) i6) L))))) (I2 n f (pO n f) (pM n f) 0 (W2 n f x y i i2 (pO n f) (pM n f) i4)) = true):(Ar (Ai tab ⟨Am Dc,(onP 0 p0 (BZ n f x y i) (onP 2 p2 (B6 n f x y i2) (onP 4 p4 (Dm n f (pO n f) (pM n f) i4) (onP 6 p6 (GD n f (pO n f) (pM n f) i6) L)))),Gl⟩ Try.f19 [iV 1,Az n f] [])).sem = some ((.tup [(iV 45),(nV i6)]),[]):=by
 exact Aa (ks:=[kN (kI 1),kN (kI 1),kN (kI 1),kF,kn h0,kn h0,kn h0,kn h1,kn hp0,kn hp2,kn h2,kn h3,kL n,kn h4,kL n,kn h4,kn hp4,kn hp6]) (by kernel_rfl)
theorem AeT (h0:ilt (ofNat n) 2 = false) (h1:ilt 16 (ofNat n) = false) (h2:ilt x 2 = false) (h3:ilt y 2 = false) (h4:Bj n = true) (hp0:p0 (C6 (onP 0 p0 (BZ n f x y i) (onP 2 p2 (B6 n f x y i2) (onP 4 p4 (Dm n f (pO n f) (pM n f) i4) (onP 6 p6 (GC n f (pO n f) (pM n f) i6) L))))) (EX n f 0 0 0 (M0 n f )) = true) (hp2:p2 (CX (onP 0 p0 (BZ n f x y i) (onP 2 p2 (B6 n f x y i2) (onP 4 p4 (Dm n f (pO n f) (pM n f) i4) (onP 6 p6 (GC n f (pO n f) (pM n f) i6) L))))) (Es n f x y 0 (IO n f x y i)) = true) (hp4:p4 (DM (onP 0 p0 (BZ n f x y i) (onP 2 p2 (B6 n f x y i2) (onP 4 p4 (Dm n f (pO n f) (pM n f) i4) (onP 6 p6 (GC n f (pO n f) (pM n f) i6) L))))) (FL n f (pO n f) (pM n f) 0 (Rh n f x y i i2)) = true) (hp6:p6 (Fs (onP 0 p0 (BZ n f x y i) (onP 2 p2 (B6 n f x y i2) (onP 4 p4 (Dm n f (pO n f) (pM n f) i4) (onP 6 p6 (GC n f (pO n f) (pM n f) i6) L))))) (I2 n f (pO n f) (pM n f) 0 (W2 n f x y i i2 (pO n f) (pM n f) i4)) = true):(Ar (Ai tab ⟨Am Dc,(onP 0 p0 (BZ n f x y i) (onP 2 p2 (B6 n f x y i2) (onP 4 p4 (Dm n f (pO n f) (pM n f) i4) (onP 6 p6 (GC n f (pO n f) (pM n f) i6) L)))),Gl⟩ Try.f19 [iV 1,Az n f] [])).sem = some ((.tup [(iV 0),(iV 0)]),[]):=by
 exact Aa (ks:=[kN (kI 1),kN (kI 1),kN (kI 1),kF,kn h0,kn h0,kn h0,kn h1,kn hp0,kn hp2,kn h2,kn h3,kL n,kn h4,kL n,kn h4,kn hp4,kn hp6]) (by kernel_rfl)
end
section
variable (L:LT) (n:Nat) (f:Nat->E6)
include L n f
theorem AeX (h0:ilt (ofNat n) 2 = true):(Ar (Ai tab ⟨Am Dc,L,Gl⟩ Try.f19 [iV 1,Az n f] [])).sem = some ((.tup [(iV 40),(iV 0)]),[]):=by
 exact Aa (ks:=[kN (kI 1),kN (kI 1),kN (kI 1),kF,kn h0,kn h0,kn h0,kT]) (by kernel_rfl)
theorem AeW (h0:ilt (ofNat n) 2 = false) (h1:ilt 16 (ofNat n) = true):(Ar (Ai tab ⟨Am Dc,L,Gl⟩ Try.f19 [iV 1,Az n f] [])).sem = some ((.tup [(iV 40),(iV 0)]),[]):=by
 exact Aa (ks:=[kN (kI 1),kN (kI 1),kN (kI 1),kF,kn h0,kn h0,kn h0,kn h1]) (by kernel_rfl)
end
theorem N8 (L:LT) (n:Nat) (f:Nat->E6) (hn:n <= 4611686018427387904):∀ (d i:Nat) (j:Nat->V) (q:Nat),n = i+d->d < q ->
  (A4 (C6 L) (Km n f) q (EX n f (ofNat (Al (λk=>Ax (f k)) i)) (ofNat (Al (λk=>Aw (f k)) i)) i j)).sem = some (match Bd (C3 1 f) d i with
   | none=>BZ n f (ofNat (Al (λk=>Ax (f k)) n)) (ofNat (Al (λk=>Aw (f k)) n)) n
   | some t=>match ieq (DT 1 (f t)) 0 with
    | false=>Vn n f (ofNat (Al (λk=>Ax (f k)) t)) (ofNat (Al (λk=>Aw (f k)) t)) t
    | true=>Vm n f (ofNat (Al (λk=>Ax (f k)) t)) (ofNat (Al (λk=>Aw (f k)) t)) t)
 | 0,i,j,q+1,h,_=>by
  have:n = i:=by omega
  subst this
  exact Ab (AhB L n f (ofNat (Al (λk=>Ax (f k)) n)) (ofNat (Al (λk=>Aw (f k)) n)) n j (A6 (Nat.le_refl _)))
 | d+1,i,j,q+1,h,h2=>by
  have hl:i < n:=by omega
  have ho:=Be (λk=>Ax (f k)) i
  have hm:=Be (λk=>Aw (f k)) i
  cases c1:ieq (Bb (f i)) 0 with
  | false =>
   have c1':ieq (DT 1 (f i)) 0 = false:=c1
   rw [BV (show C3 1 f i = true by rw [C3,c1']; rfl)]
   simp only [c1']
   exact Ab (AhA L n f (ofNat (Al (λk=>Ax (f k)) i)) (ofNat (Al (λk=>Aw (f k)) i)) i j (ofNat_lt hl) (Ap hl) c1)
  | true =>
   have c1':ieq (DT 1 (f i)) 0 = true:=c1
   cases c2:Hm 1 (f i) with
   | false =>
    rw [BV (show C3 1 f i = true by rw [C3,c1',c2]; rfl)]
    simp only [c1']
    exact Ab (Ah9 L n f (ofNat (Al (λk=>Ax (f k)) i)) (ofNat (Al (λk=>Aw (f k)) i)) i j (ofNat_lt hl) (Ap hl) c1 c2)
   | true =>
    cases c3:Ax (f i) with
    | false =>
     cases c4:Aw (f i) with
     | false =>
      rw [B1 (show C3 1 f i = false by rw [C3,show ieq (DT 1 (f i)) 0 = true from c1,c2]; rfl),Ab (Acx L n f (ofNat (Al (λk=>Ax (f k)) i)) (ofNat (Al (λk=>Aw (f k)) i)) i j (ofNat_lt hl) (Ap hl) c1 c2 c3 c4),Aq,Ao hl hn,<- By (p:=(λk=>Ax (f k))) c3,<- By (p:=(λk=>Aw (f k))) c4]
      exact N8 L n f hn d (i+1) (λ_=>.und) q (by omega) (by omega)
     | true =>
      rw [B1 (show C3 1 f i = false by rw [C3,show ieq (DT 1 (f i)) 0 = true from c1,c2]; rfl),Ab (Acy L n f (ofNat (Al (λk=>Ax (f k)) i)) (ofNat (Al (λk=>Aw (f k)) i)) i j (ofNat_lt hl) (Ap hl) c1 c2 c3 c4),Aq,Ao hl hn,Ao (show Al (λk=>Aw (f k)) i < n by omega) hn,<- By (p:=(λk=>Ax (f k))) c3,<- Bl (p:=(λk=>Aw (f k))) c4]
      exact N8 L n f hn d (i+1) (λ_=>.und) q (by omega) (by omega)
    | true =>
     cases c4:Aw (f i) with
     | false =>
      rw [B1 (show C3 1 f i = false by rw [C3,show ieq (DT 1 (f i)) 0 = true from c1,c2]; rfl),Ab (Acv L n f (ofNat (Al (λk=>Ax (f k)) i)) (ofNat (Al (λk=>Aw (f k)) i)) i j (ofNat_lt hl) (Ap hl) c1 c2 c3 c4),Aq,Ao hl hn,Ao (show Al (λk=>Ax (f k)) i < n by omega) hn,<- Bl (p:=(λk=>Ax (f k))) c3,<- By (p:=(λk=>Aw (f k))) c4]
      exact N8 L n f hn d (i+1) (λ_=>.und) q (by omega) (by omega)
     | true =>
      rw [B1 (show C3 1 f i = false by rw [C3,show ieq (DT 1 (f i)) 0 = true from c1,c2]; rfl),Ab (Acw L n f (ofNat (Al (λk=>Ax (f k)) i)) (ofNat (Al (λk=>Aw (f k)) i)) i j (ofNat_lt hl) (Ap hl) c1 c2 c3 c4),Aq,Ao hl hn,Ao (show Al (λk=>Ax (f k)) i < n by omega) hn,Ao (show Al (λk=>Aw (f k)) i < n by omega) hn,<- Bl (p:=(λk=>Ax (f k))) c3,<- Bl (p:=(λk=>Aw (f k))) c4]
      exact N8 L n f hn d (i+1) (λ_=>.und) q (by omega) (by omega)
theorem VZ (L:LT) (n:Nat) (f:Nat->E6) (x y:Int) (hn:n <= 4611686018427387904):∀ (d i:Nat) (j:Nat->V) (q:Nat),n = i+d->d < q ->
  (A4 (CX L) (Kr n f) q (Es n f x y i j)).sem = some (match Bd (Fl n f) d i with
   | none=>B6 n f x y 0
   | some t=>KI n f x y t)
 | 0,i,j,q+1,h,_=>by
  have:n = i:=by omega
  subst this
  exact Ab (Ah4 L n f x y n j (A6 (Nat.le_refl _)))
 | d+1,i,j,q+1,h,h2=>by
  have hl:i < n:=by omega
  have e1:=NP hl hn
  have hb:Ak (ile 0 (Ae (wr .i64 (Af (ofNat i) 1)) (ofNat n))) (ilt (Ae (wr .i64 (Af (ofNat i) 1)) (ofNat n)) (ofNat n)) = true:=by
   rw [e1]; exact Ap (Nat.mod_lt _ (by omega))
  have e2:toN (ofNat ((i+1) % n)) = (i+1) % n:=rfl
  cases c1:ieq (f i).dst (f ((i+1) % n)).src with
  | false =>
   rw [BV (show Fl n f i = true by rw [Fl,c1]; rfl)]
   exact Ab (Ah3 L n f x y i j (ofNat_lt hl) (Ap hl) (X8 hl) hb (by rw [e1,e2]; exact c1))
  | true =>
   rw [B1 (show Fl n f i = false by rw [Fl,c1]; rfl),Ab (Ah2 L n f x y i j (ofNat_lt hl) (Ap hl) (X8 hl) hb (by rw [e1,e2]; exact c1)),Aq,Ao hl hn]
   exact VZ L n f x y hn d (i+1) (λ_=>.und) q (by omega) (by omega)
theorem QB (L:LT) (n:Nat) (f:Nat->E6) (u v:Nat->Int) (hn:n <= 4611686018427387904):∀ (d i:Nat) (j:Nat->V) (q:Nat),n = i+d->d < q ->
  (A4 (DM L) (IJ n f) q (FL n f u v i j)).sem = some (match Bd (AJ n v (λi=>isW (f i)) 2) d i with
   | none=>Dm n f u v 0
   | some t=>Ik n f u v t)
 | 0,i,j,q+1,h,_=>by
  have:n = i:=by omega
  subst this
  exact Ab (AgR L n f u v n j (A6 (Nat.le_refl _)))
 | d+1,i,j,q+1,h,h2=>by
  have hl:i < n:=by omega
  have hs:Ag n = true:=decide_eq_true hn
  cases c1:ieq (f i).src 2 with
  | false =>
   rw [B1 (show AJ n v (λi=>isW (f i)) 2 i = false by rw [AJ,isW,c1]; rfl),Ab (AgU L n f u v i j (ofNat_lt hl) (Ap hl) c1),Aq,Ao hl hn]
   exact QB L n f u v hn d (i+1) (λ_=>.und) q (by omega) (by omega)
  | true =>
   cases c2:ilt 2 (Gr n v (λi=>(bor (AG true) (isW (f i)))) (v i)) with
   | false =>
    rw [B1 (show AJ n v (λi=>isW (f i)) 2 i = false by rw [AJ,isW,c1]; exact c2),Ab (AgT L n f u v i j (ofNat_lt hl) (Ap hl) c1 (show nlt i n = true by simpa [nlt] using hl) (Nat.beq_refl n) hs c2),Aq,Ao hl hn]
    exact QB L n f u v hn d (i+1) (λ_=>.und) q (by omega) (by omega)
   | true =>
    rw [BV (show AJ n v (λi=>isW (f i)) 2 i = true by rw [AJ,isW,c1]; exact c2)]
    exact Ab (AgS L n f u v i j (ofNat_lt hl) (Ap hl) c1 (show nlt i n = true by simpa [nlt] using hl) (Nat.beq_refl n) hs c2)
theorem VX (L:LT) (n:Nat) (f:Nat->E6) (u v:Nat->Int) (hn:n <= 4611686018427387904):∀ (d i:Nat) (j:Nat->V) (q:Nat),n = i+d->d < q ->
  (A4 (Fs L) (Kp n f) q (I2 n f u v i j)).sem = some (match Bd (AJ n u (λ_=>true) 12) d i with
   | none=>GC n f u v 0
   | some t=>GD n f u v t)
 | 0,i,j,q+1,h,_=>by
  have:n = i:=by omega
  subst this
  exact Ab (Ag8 L n f u v n j (A6 (Nat.le_refl _)))
 | d+1,i,j,q+1,h,h2=>by
  have hl:i < n:=by omega
  have hs:Ag n = true:=decide_eq_true hn
  cases c2:ilt 12 (Gr n u (λi=>(bor (AG false) (isW (f i)))) (u i)) with
  | false =>
   rw [B1 (show AJ n u (λ_=>true) 12 i = false from c2),Ab (AgA L n f u v i j (ofNat_lt hl) (Ap hl) (show nlt i n = true by simpa [nlt] using hl) (Nat.beq_refl n) hs c2),Aq,Ao hl hn]
   exact VX L n f u v hn d (i+1) (λ_=>.und) q (by omega) (by omega)
  | true =>
   rw [BV (show AJ n u (λ_=>true) 12 i = true from c2)]
   exact Ab (Ag9 L n f u v i j (ofNat_lt hl) (Ap hl) (show nlt i n = true by simpa [nlt] using hl) (Nat.beq_refl n) hs c2)
def QU (n:Nat) (f:Nat->E6):List (Nat × Lp):=[(0,Km n f),(2,Kr n f),(4,IJ n f),(6,Kp n f)]
theorem AbF (n:Nat) (f:Nat->E6) (hF:Bj n = true) :
  (Ar (Ai tab (AI Gl Dc (QU n f)) Try.f19 [iV 1,Az n f] [])).sem = some (.tup [iV (JE 1 n f).1,iV (JE 1 n f).2],[]):=by
 have hL:=AE (QU n f)
 have hn:=CO (ET hF)
 unfold JE
 cases hA:ilt (ofNat n) 2 with
 | true=>exact AeX _ n f hA
 | false =>
  cases hB:ilt 16 (ofNat n) with
  | true=>exact AeW _ n f hA hB
  | false =>
   have h0:=λL j=>N8 L n f hn n 0 j (n+1) (by omega) (by omega)
   have h2:=λL j=>VZ L n f (ofNat (Al (λk=>Ax (f k)) n)) (ofNat (Al (λk=>Aw (f k)) n)) hn n 0 j (n+1) (by omega) (by omega)
   have h4:=λL j=>QB L n f (pO n f) (pM n f) hn n 0 j (n+1) (by omega) (by omega)
   have h6:=λL j=>VX L n f (pO n f) (pM n f) hn n 0 j (n+1) (by omega) (by omega)
   show _ = some (V.tup [iV (match D6 1 n f,ieq (D6 1 n f).1 0 with | r,false=>r | _,true=>Fi n f).1,iV (match D6 1 n f,ieq (D6 1 n f).1 0 with | r,false=>r | _,true=>Fi n f).2],[])
   unfold D6
   cases c1:Bd (C3 1 f) n 0 with
   | some t =>
    rw [c1] at h0
    cases c2:ieq (DT 1 (f t)) 0 with
    | false =>
     simp only [c2] at h0 ⊢
     exact A2 (As hL hL) _ (Afb _ _ n f (ofNat (Al (λk=>Ax (f k)) t)) (ofNat (Al (λk=>Aw (f k)) t)) t hA hB (Aj (h0 _ _)))
    | true =>
     simp only [c2] at h0 ⊢
     exact A2 (As hL hL) _ (Afa _ _ n f (ofNat (Al (λk=>Ax (f k)) t)) (ofNat (Al (λk=>Aw (f k)) t)) t hA hB (Aj (h0 _ _)))
   | none =>
    rw [c1] at h0
    cases c2:Bd (Fl n f) n 0 with
    | some t =>
     rw [c2] at h2
     exact A2 (As (As hL hL) hL) _ (AeZ _ _ _ n f (ofNat (Al (λk=>Ax (f k)) n)) (ofNat (Al (λk=>Aw (f k)) n)) n t hA hB (Aj (h0 _ _)) (Aj (h2 _ _)))
    | none =>
     rw [c2] at h2
     show _ = some (V.tup [iV (Fi n f).1,iV (Fi n f).2],[])
     unfold Fi
     cases c3:ilt (Im n f) 2 with
     | true=>exact A2 (As (As hL hL) hL) _ (AeY _ _ _ n f (ofNat (Al (λk=>Ax (f k)) n)) (ofNat (Al (λk=>Aw (f k)) n)) n 0 hA hB c3 (Aj (h0 _ _)) (Aj (h2 _ _)))
     | false =>
      cases c4:ilt (JC n f) 2 with
      | true=>exact A2 (As (As hL hL) hL) _ (AeV _ _ _ n f (ofNat (Al (λk=>Ax (f k)) n)) (ofNat (Al (λk=>Aw (f k)) n)) n 0 hA hB c3 c4 (Aj (h0 _ _)) (Aj (h2 _ _)))
      | false =>
       show _ = some (V.tup [iV (JD n f).1,iV (JD n f).2],[])
       unfold JD crR
       cases c5:Bd (AJ n (A0 (λk=>Aw (f k)) n) (λi=>isW (f i)) 2) n 0 with
       | some t =>
        rw [show (Bd (AJ n (pM n f) (λi=>isW (f i)) 2) n 0) = some t from c5] at h4
        exact A2 (As (As (As hL hL) hL) hL) _ (AeU _ _ _ _ n f (ofNat (Al (λk=>Ax (f k)) n)) (ofNat (Al (λk=>Aw (f k)) n)) n 0 t hA hB c3 c4 hF (Aj (h0 _ _)) (Aj (h2 _ _)) (Aj (h4 _ _)))
       | none =>
        rw [show (Bd (AJ n (pM n f) (λi=>isW (f i)) 2) n 0) = none from c5] at h4
        cases c6:Bd (AJ n (A0 (λk=>Ax (f k)) n) (λ_=>true) 12) n 0 with
        | some t =>
         rw [show (Bd (AJ n (pO n f) (λ_=>true) 12) n 0) = some t from c6] at h6
         exact A2 (As (As (As (As hL hL) hL) hL) hL) _ (Afc _ _ _ _ _ n f (ofNat (Al (λk=>Ax (f k)) n)) (ofNat (Al (λk=>Aw (f k)) n)) n 0 0 t hA hB c3 c4 hF (Aj (h0 _ _)) (Aj (h2 _ _)) (Aj (h4 _ _)) (Aj (h6 _ _)))
        | none =>
         rw [show (Bd (AJ n (pO n f) (λ_=>true) 12) n 0) = none from c6] at h6
         exact A2 (As (As (As (As hL hL) hL) hL) hL) _ (AeT _ _ _ _ _ n f (ofNat (Al (λk=>Ax (f k)) n)) (ofNat (Al (λk=>Aw (f k)) n)) n 0 0 0 hA hB c3 c4 hF (Aj (h0 _ _)) (Aj (h2 _ _)) (Aj (h4 _ _)) (Aj (h6 _ _)))
def Ko (n:Nat) (_:Nat->E6):Lp:=⟨(bmK 133 0 [0,1,4,5,6,7,8,9]),0,bmK 133 0 [1,4,5,6,7,8],0,n+1⟩
def EY (n:Nat) (f:Nat->E6) (x y:Int) (i:Nat) (j:Nat->V):St:=⟨(jsV 133 0 j [(0,iV 2),(1,.sl 6 n (λi=>eV (f i))),(4,iV 0),(5,iV 0),(6,nV n),(7,iV x),(8,iV y),(9,nV i)]),[]⟩
def Ca (n:Nat) (f:Nat->E6) (x y:Int) (_:Nat):Ex × St:=(.ex 0,⟨(jsV 133 0 (λ_=>.und) [(1,.sl 6 n (λi=>eV (f i))),(4,iV 0),(5,iV 0),(6,nV n),(7,iV x),(8,iV y)]),[]⟩)
def Vp (n:Nat) (f:Nat->E6) (x y:Int) (i:Nat):Ex × St:=(.rt,⟨(jsV 133 0 (λ_=>.und) [(1,.sl 6 n (λi=>eV (f i))),(4,iV 30),(5,nV i),(6,nV n),(7,iV x),(8,iV y)]),[]⟩)
def Vo (n:Nat) (f:Nat->E6) (x y:Int) (i:Nat):Ex × St:=(.rt,⟨(jsV 133 0 (λ_=>.und) [(1,.sl 6 n (λi=>eV (f i))),(4,iV 5),(5,nV i),(6,nV n),(7,iV x),(8,iV y)]),[]⟩)
noncomputable def C7 (L:LT):St->T (Ex × St):=λst=>AC tab ⟨Am Dc,L,Gl⟩ (Au Try.f19 0) 0 st
section
variable (L:LT) (n:Nat) (f:Nat->E6) (x y:Int) (i:Nat)  (j:Nat->V)
include L n f x y i j
theorem AhE (h0:ilt (ofNat i) (ofNat n) = false):Ah (C7 L) (Ko n f) (EY n f x y i j) = some ((.ex 0),⟨(jsV 133 0 (λ_=>.und) [(1,(.sl 6 n (λi=>(eV (f i))))),(4,(iV 0)),(5,(iV 0)),(6,(nV n)),(7,(iV x)),(8,(iV y))]),[]⟩):=by
 exact Aa (ks:=[kn h0]) (by kernel_rfl)
theorem AhD (h0:ilt (ofNat i) (ofNat n) = true) (h1:Ak (ile 0 (ofNat i)) (ilt (ofNat i) (ofNat n)) = true) (h2:ieq (Bb (f i)) 0 = false):Ah (C7 L) (Ko n f) (EY n f x y i j) = some (.rt,⟨(jsV 133 0 (λ_=>.und) [(1,(.sl 6 n (λi=>(eV (f i))))),(4,(iV 30)),(5,(nV i)),(6,(nV n)),(7,(iV x)),(8,(iV y))]),[]⟩):=by
 exact Aa (ks:=[kn h0,kn h1,kN (kn h2)]) (by kernel_rfl)
theorem AhC (h0:ilt (ofNat i) (ofNat n) = true) (h1:Ak (ile 0 (ofNat i)) (ilt (ofNat i) (ofNat n)) = true) (h2:ieq (Bb (f i)) 0 = true) (h3:Hm 2 (f i) = false):Ah (C7 L) (Ko n f) (EY n f x y i j) = some (.rt,⟨(jsV 133 0 (λ_=>.und) [(1,(.sl 6 n (λi=>(eV (f i))))),(4,(iV 5)),(5,(nV i)),(6,(nV n)),(7,(iV x)),(8,(iV y))]),[]⟩):=by
 exact Aa (ks:=[kn h0,kn h1,kN (kn h2),kn h1,kN (kn h3)]) (by kernel_rfl)
theorem Ac1 (h0:ilt (ofNat i) (ofNat n) = true) (h1:Ak (ile 0 (ofNat i)) (ilt (ofNat i) (ofNat n)) = true) (h2:ieq (Bb (f i)) 0 = true) (h3:Hm 2 (f i) = true) (h4:Ax (f i) = false) (h5:Aw (f i) = false):Ah (C7 L) (Ko n f) (EY n f x y i j) = some (.nm,⟨(jsV 133 0 (λ_=>.und) [(0,(iV 2)),(1,(.sl 6 n (λi=>(eV (f i))))),(4,(iV 0)),(5,(iV 0)),(6,(nV n)),(7,(iV x)),(8,(iV y)),(9,(iV (wr .i64 (Af (ofNat i) 1))))]),[]⟩):=by
 exact Aa (ks:=[kn h0,kn h1,kN (kn h2),kn h1,kN (kn h3),kn h1,kn h4,kn h1,kn h5]) (by kernel_rfl)
theorem Ac2 (h0:ilt (ofNat i) (ofNat n) = true) (h1:Ak (ile 0 (ofNat i)) (ilt (ofNat i) (ofNat n)) = true) (h2:ieq (Bb (f i)) 0 = true) (h3:Hm 2 (f i) = true) (h4:Ax (f i) = false) (h5:Aw (f i) = true):Ah (C7 L) (Ko n f) (EY n f x y i j) = some (.nm,⟨(jsV 133 0 (λ_=>.und) [(0,(iV 2)),(1,(.sl 6 n (λi=>(eV (f i))))),(4,(iV 0)),(5,(iV 0)),(6,(nV n)),(7,(iV x)),(8,(iV (wr .i64 (Af y 1)))),(9,(iV (wr .i64 (Af (ofNat i) 1))))]),[]⟩):=by
 exact Aa (ks:=[kn h0,kn h1,kN (kn h2),kn h1,kN (kn h3),kn h1,kn h4,kn h1,kn h5]) (by kernel_rfl)
theorem Acz (h0:ilt (ofNat i) (ofNat n) = true) (h1:Ak (ile 0 (ofNat i)) (ilt (ofNat i) (ofNat n)) = true) (h2:ieq (Bb (f i)) 0 = true) (h3:Hm 2 (f i) = true) (h4:Ax (f i) = true) (h5:Aw (f i) = false):Ah (C7 L) (Ko n f) (EY n f x y i j) = some (.nm,⟨(jsV 133 0 (λ_=>.und) [(0,(iV 2)),(1,(.sl 6 n (λi=>(eV (f i))))),(4,(iV 0)),(5,(iV 0)),(6,(nV n)),(7,(iV (wr .i64 (Af x 1)))),(8,(iV y)),(9,(iV (wr .i64 (Af (ofNat i) 1))))]),[]⟩):=by
 exact Aa (ks:=[kn h0,kn h1,kN (kn h2),kn h1,kN (kn h3),kn h1,kn h4,kn h1,kn h5]) (by kernel_rfl)
theorem Ac0 (h0:ilt (ofNat i) (ofNat n) = true) (h1:Ak (ile 0 (ofNat i)) (ilt (ofNat i) (ofNat n)) = true) (h2:ieq (Bb (f i)) 0 = true) (h3:Hm 2 (f i) = true) (h4:Ax (f i) = true) (h5:Aw (f i) = true):Ah (C7 L) (Ko n f) (EY n f x y i j) = some (.nm,⟨(jsV 133 0 (λ_=>.und) [(0,(iV 2)),(1,(.sl 6 n (λi=>(eV (f i))))),(4,(iV 0)),(5,(iV 0)),(6,(nV n)),(7,(iV (wr .i64 (Af x 1)))),(8,(iV (wr .i64 (Af y 1)))),(9,(iV (wr .i64 (Af (ofNat i) 1))))]),[]⟩):=by
 exact Aa (ks:=[kn h0,kn h1,kN (kn h2),kn h1,kN (kn h3),kn h1,kn h4,kn h1,kn h5]) (by kernel_rfl)
end
def M1 (n:Nat) (f:Nat->E6) :Nat->V:=lkV A9 [(17,(iV 2)),(18,(bV (AG (ieq 2 1)))),(19,(bV (AG (ieq 2 1)))),(20,(iV 2)),(21,(bV (AG (ieq 2 2)))),(22,(bV (AG (ieq 2 2)))),(23,(.sl 6 n (λi=>eV (f i)))),(24,(nV n)),(25,(nV n)),(26,(bV (ilt (ofNat n) 2))),(27,(bV (ilt (ofNat n) 2))),(28,(nV n)),(29,(bV (ilt 16 (ofNat n)))),(30,(bV (ilt 16 (ofNat n))))]
def Ks (n:Nat) (_:Nat->E6):Lp:=⟨(bmK 133 0 [1,4,5,6,7,8,12]),0,bmK 133 0 [1,4,5,6,7,8],0,n+1⟩
def Et (n:Nat) (f:Nat->E6) (x y:Int) (i:Nat) (j:Nat->V):St:=⟨(jsV 133 0 j [(1,.sl 6 n (λi=>eV (f i))),(4,iV 0),(5,iV 0),(6,nV n),(7,iV x),(8,iV y),(12,nV i)]),[]⟩
def B7 (n:Nat) (f:Nat->E6) (x y:Int) (_:Nat):Ex × St:=(.ex 2,⟨(jsV 133 0 (λ_=>.und) [(1,.sl 6 n (λi=>eV (f i))),(4,iV 0),(5,iV 0),(6,nV n),(7,iV x),(8,iV y)]),[]⟩)
def KJ (n:Nat) (f:Nat->E6) (x y:Int) (i:Nat):Ex × St:=(.rt,⟨(jsV 133 0 (λ_=>.und) [(1,.sl 6 n (λi=>eV (f i))),(4,iV 41),(5,nV i),(6,nV n),(7,iV x),(8,iV y)]),[]⟩)
noncomputable def CY (L:LT):St->T (Ex × St):=λst=>AC tab ⟨Am Dc,L,Gl⟩ (Au Try.f19 2) 2 st
section
variable (L:LT) (n:Nat) (f:Nat->E6) (x y:Int) (i:Nat)  (j:Nat->V)
include L n f x y i j
theorem Ah7 (h0:ilt (ofNat i) (ofNat n) = false):Ah (CY L) (Ks n f) (Et n f x y i j) = some ((.ex 2),⟨(jsV 133 0 (λ_=>.und) [(1,(.sl 6 n (λi=>(eV (f i))))),(4,(iV 0)),(5,(iV 0)),(6,(nV n)),(7,(iV x)),(8,(iV y))]),[]⟩):=by
 exact Aa (ks:=[kn h0]) (by kernel_rfl)
theorem Ah6 (h0:ilt (ofNat i) (ofNat n) = true) (h1:Ak (ile 0 (ofNat i)) (ilt (ofNat i) (ofNat n)) = true) (h2:ieq (ofNat n) 0 = false) (h3:Ak (ile 0 (Ae (wr .i64 (Af (ofNat i) 1)) (ofNat n))) (ilt (Ae (wr .i64 (Af (ofNat i) 1)) (ofNat n)) (ofNat n)) = true) (h4:ieq ((f i)).dst ((f (toN (Ae (wr .i64 (Af (ofNat i) 1)) (ofNat n))))).src = false):Ah (CY L) (Ks n f) (Et n f x y i j) = some (.rt,⟨(jsV 133 0 (λ_=>.und) [(1,(.sl 6 n (λi=>(eV (f i))))),(4,(iV 41)),(5,(nV i)),(6,(nV n)),(7,(iV x)),(8,(iV y))]),[]⟩):=by
 exact Aa (ks:=[kn h0,kn h1,kn h2,kn h3,kN (kn h4)]) (by kernel_rfl)
theorem Ah5 (h0:ilt (ofNat i) (ofNat n) = true) (h1:Ak (ile 0 (ofNat i)) (ilt (ofNat i) (ofNat n)) = true) (h2:ieq (ofNat n) 0 = false) (h3:Ak (ile 0 (Ae (wr .i64 (Af (ofNat i) 1)) (ofNat n))) (ilt (Ae (wr .i64 (Af (ofNat i) 1)) (ofNat n)) (ofNat n)) = true) (h4:ieq ((f i)).dst ((f (toN (Ae (wr .i64 (Af (ofNat i) 1)) (ofNat n))))).src = true):Ah (CY L) (Ks n f) (Et n f x y i j) = some (.nm,⟨(jsV 133 0 (λ_=>.und) [(1,(.sl 6 n (λi=>(eV (f i))))),(4,(iV 0)),(5,(iV 0)),(6,(nV n)),(7,(iV x)),(8,(iV y)),(12,(iV (wr .i64 (Af (ofNat i) 1))))]),[]⟩):=by
 exact Aa (ks:=[kn h0,kn h1,kn h2,kn h3,kN (kn h4)]) (by kernel_rfl)
end
def IP (_:Nat) (_:Nat->E6) (_ _:Int) (_:Nat):Nat->V:=lkV A9 [(0,.und),(2,.und),(3,.und),(9,.und),(10,.und),(11,.und),(13,.und),(14,.und),(15,.und),(16,.und),(17,.und),(18,.und),(19,.und),(20,.und),(21,.und),(22,.und),(23,.und),(24,.und),(25,.und),(26,.und),(27,.und),(28,.und),(29,.und),(30,.und),(31,.und),(32,.und),(33,.und),(34,.und),(35,.und),(36,.und),(37,.und),(38,.und),(39,.und),(40,.und),(41,.und),(42,.und),(43,.und),(44,.und),(45,.und),(46,.und),(47,.und),(48,.und),(49,.und),(50,.und),(51,.und),(52,.und),(53,.und),(54,.und),(55,.und),(56,.und),(57,.und),(58,.und),(59,.und),(60,.und),(61,.und),(62,.und),(63,.und),(64,.und),(65,.und),(66,.und),(67,.und),(68,.und),(69,.und),(70,.und),(71,.und),(72,.und),(73,.und),(74,.und),(75,.und),(76,.und),(77,.und),(78,.und),(79,.und),(80,.und),(81,.und),(82,.und),(83,.und),(84,.und),(85,.und),(86,.und),(87,.und),(88,.und),(89,.und),(90,.und),(91,.und),(92,.und),(93,.und),(94,.und),(95,.und),(96,.und),(97,.und),(98,.und),(99,.und),(100,.und),(101,.und),(102,.und),(103,.und),(104,.und),(105,.und),(106,.und),(107,.und),(108,.und),(109,.und),(110,.und),(111,.und),(112,.und),(113,.und),(114,.und),(115,.und),(116,.und),(117,.und),(118,.und),(119,.und),(120,.und),(121,.und),(122,.und),(123,.und),(124,.und),(125,.und),(126,.und),(127,.und),(128,.und),(129,.und),(130,.und),(131,.und),(132,.und)]
def IK (n:Nat) (_:Nat->E6):Lp:=⟨(bmK 133 0 [1,4,5,6,13,14,15]),2,bmK 133 0 [1,4,5,6,13],2,n+1⟩
def FM (n:Nat) (f:Nat->E6) (u v:Nat->Int) (i:Nat) (j:Nat->V):St:=⟨(jsV 133 0 j [(1,.sl 6 n (λi=>eV (f i))),(4,iV 0),(5,iV 0),(6,nV n),(13,.ref 0),(14,.ref 1),(15,nV i)]),[.row 3 1 n (λk=>iV (u k)),.row 3 1 n (λk=>iV (v k))]⟩
def Dn (n:Nat) (f:Nat->E6) (u v:Nat->Int) (_:Nat):Ex × St:=(.ex 4,⟨(jsV 133 0 (λ_=>.und) [(1,.sl 6 n (λi=>eV (f i))),(4,iV 0),(5,iV 0),(6,nV n),(13,.ref 0)]),[.row 3 1 n (λk=>iV (u k)),.row 3 1 n (λk=>iV (v k))]⟩)
def Il (n:Nat) (f:Nat->E6) (u v:Nat->Int) (i:Nat):Ex × St:=(.rt,⟨(jsV 133 0 (λ_=>.und) [(1,.sl 6 n (λi=>eV (f i))),(4,iV 44),(5,nV i),(6,nV n),(13,.ref 0)]),[.row 3 1 n (λk=>iV (u k)),.row 3 1 n (λk=>iV (v k))]⟩)
noncomputable def DN (L:LT):St->T (Ex × St):=λst=>AC tab ⟨Am Dc,L,Gl⟩ (Au Try.f19 4) 4 st
section
variable (L:LT) (n:Nat) (f:Nat->E6) (u v:Nat->Int) (i:Nat)  (j:Nat->V)
include L n f u v i j
theorem AgV (h0:ilt (ofNat i) (ofNat n) = false):Ah (DN L) (IK n f) (FM n f u v i j) = some ((.ex 4),⟨(jsV 133 0 (λ_=>.und) [(1,(.sl 6 n (λi=>(eV (f i))))),(4,(iV 0)),(5,(iV 0)),(6,(nV n)),(13,(.ref 0))]),[(.row 3 1 n (λk=>(iV (u k)))),(.row 3 1 n (λk=>(iV (v k))))]⟩):=by
 exact Aa (ks:=[kn h0]) (by kernel_rfl)
theorem AgY (h0:ilt (ofNat i) (ofNat n) = true) (h1:Ak (ile 0 (ofNat i)) (ilt (ofNat i) (ofNat n)) = true) (h2:ieq ((f i)).src 2 = false):Ah (DN L) (IK n f) (FM n f u v i j) = some (.nm,⟨(jsV 133 0 (λ_=>.und) [(1,(.sl 6 n (λi=>(eV (f i))))),(4,(iV 0)),(5,(iV 0)),(6,(nV n)),(13,(.ref 0)),(14,(.ref 1)),(15,(iV (wr .i64 (Af (ofNat i) 1))))]),[(.row 3 1 n (λk=>(iV (u k)))),(.row 3 1 n (λk=>(iV (v k))))]⟩):=by
 exact Aa (ks:=[kn h0,kn h1,kn h2,kn h2,kn h2,kn h2,kn h2,kn h2,kn h2,kn h2,kn h2,kF]) (by kernel_rfl)
theorem AgX (h0:ilt (ofNat i) (ofNat n) = true) (h1:Ak (ile 0 (ofNat i)) (ilt (ofNat i) (ofNat n)) = true) (h2:ieq ((f i)).src 2 = true) (h15:nlt i n = true) (h3:AD n n = true) (h4:Ag n = true) (h5:ilt 2 (Gr n v (λi=>(bor (AG true) (isW (f i)))) (v i)) = false):Ah (DN L) (IK n f) (FM n f u v i j) = some (.nm,⟨(jsV 133 0 (λ_=>.und) [(1,(.sl 6 n (λi=>(eV (f i))))),(4,(iV 0)),(5,(iV 0)),(6,(nV n)),(13,(.ref 0)),(14,(.ref 1)),(15,(iV (wr .i64 (Af (ofNat i) 1))))]),[(.row 3 1 n (λk=>(iV (u k)))),(.row 3 1 n (λk=>(iV (v k))))]⟩):=by
 exact Aa (ks:=[kn h0,kn h1,kn h2,kn h2,kn h2,kn h2,kn h2,kn h1,kn h2,kn h15,kn h2,kL n,kL n,kn h3,kn h4,kn h2,kn h2,kn h5]) (by kernel_rfl)
theorem AgW (h0:ilt (ofNat i) (ofNat n) = true) (h1:Ak (ile 0 (ofNat i)) (ilt (ofNat i) (ofNat n)) = true) (h2:ieq ((f i)).src 2 = true) (h15:nlt i n = true) (h3:AD n n = true) (h4:Ag n = true) (h5:ilt 2 (Gr n v (λi=>(bor (AG true) (isW (f i)))) (v i)) = true):Ah (DN L) (IK n f) (FM n f u v i j) = some (.rt,⟨(jsV 133 0 (λ_=>.und) [(1,(.sl 6 n (λi=>(eV (f i))))),(4,(iV 44)),(5,(nV i)),(6,(nV n)),(13,(.ref 0))]),[(.row 3 1 n (λk=>(iV (u k)))),(.row 3 1 n (λk=>(iV (v k))))]⟩):=by
 exact Aa (ks:=[kn h0,kn h1,kn h2,kn h2,kn h2,kn h2,kn h2,kn h1,kn h2,kn h15,kn h2,kL n,kL n,kn h3,kn h4,kn h2,kn h2,kn h5]) (by kernel_rfl)
end
def Ri (n:Nat) (f:Nat->E6) (x y:Int) (_ _:Nat):Nat->V:=lkV A9 [(0,.und),(2,.und),(3,.und),(7,(iV x)),(8,(iV y)),(9,.und),(10,.und),(11,.und),(12,.und),(16,.und),(17,.und),(18,.und),(19,.und),(20,.und),(21,.und),(22,.und),(23,.und),(24,.und),(25,.und),(26,.und),(27,.und),(28,.und),(29,.und),(30,.und),(31,.und),(32,.und),(33,.und),(34,.und),(35,.und),(36,.und),(37,.und),(38,.und),(39,.und),(40,.und),(41,.und),(42,.und),(43,.und),(44,.und),(45,.und),(46,.und),(47,.und),(48,.und),(49,.und),(50,.und),(51,.und),(52,.und),(53,.und),(54,.und),(55,.und),(56,.und),(57,.und),(58,.und),(59,.und),(60,.und),(61,.und),(62,.und),(63,.und),(64,.und),(65,.und),(66,.und),(67,.und),(68,.und),(69,.und),(70,.und),(71,.und),(72,.und),(73,.und),(74,.und),(75,.und),(76,.und),(77,.und),(78,.und),(79,.und),(80,.und),(81,.und),(82,.und),(83,.und),(84,.und),(85,.und),(86,.und),(87,.und),(88,.und),(89,(iV x)),(90,(bV (ilt x 2))),(91,(iV y)),(92,(bV (ilt y 2))),(93,(.sl 6 n (λi=>eV (f i)))),(94,(.ref 0)),(95,(.sl 6 n (λi=>eV (f i)))),(96,(.ref 1)),(97,.und),(98,.und),(99,.und),(100,.und),(101,.und),(102,.und),(103,.und),(104,.und),(105,.und),(106,.und),(107,.und),(108,.und),(109,.und),(110,.und),(111,.und),(112,.und),(113,.und),(114,.und),(115,.und),(116,.und),(117,.und),(118,.und),(119,.und),(120,.und),(121,.und),(122,.und),(123,.und),(124,.und),(125,.und),(126,.und),(127,.und),(128,.und),(129,.und),(130,.und),(131,.und),(132,.und)]
def Kq (n:Nat) (_:Nat->E6):Lp:=⟨(bmK 133 0 [1,4,5,6,13,16]),2,bmK 133 0 [4,5],0,n+1⟩
def I3 (n:Nat) (f:Nat->E6) (u v:Nat->Int) (i:Nat) (j:Nat->V):St:=⟨(jsV 133 0 j [(1,.sl 6 n (λi=>eV (f i))),(4,iV 0),(5,iV 0),(6,nV n),(13,.ref 0),(16,nV i)]),[.row 3 1 n (λk=>iV (u k)),.row 3 1 n (λk=>iV (v k))]⟩
def GE (_:Nat) (_:Nat->E6) (_ _:Nat->Int) (_:Nat):Ex × St:=(.ex 6,⟨(jsV 133 0 (λ_=>.und) [(4,iV 0),(5,iV 0)]),[]⟩)
def GF (_:Nat) (_:Nat->E6) (_ _:Nat->Int) (i:Nat):Ex × St:=(.rt,⟨(jsV 133 0 (λ_=>.und) [(4,iV 45),(5,nV i)]),[]⟩)
noncomputable def Ft (L:LT):St->T (Ex × St):=λst=>AC tab ⟨Am Dc,L,Gl⟩ (Au Try.f19 6) 6 st
section
variable (L:LT) (n:Nat) (f:Nat->E6) (u v:Nat->Int) (i:Nat)  (j:Nat->V)
include L n f u v i j
theorem AgB (h0:ilt (ofNat i) (ofNat n) = false):Ah (Ft L) (Kq n f) (I3 n f u v i j) = some ((.ex 6),⟨(jsV 133 0 (λ_=>.und) [(4,(iV 0)),(5,(iV 0))]),[]⟩):=by
 exact Aa (ks:=[kn h0]) (by kernel_rfl)
theorem AgD (h0:ilt (ofNat i) (ofNat n) = true) (h1:Ak (ile 0 (ofNat i)) (ilt (ofNat i) (ofNat n)) = true) (h14:nlt i n = true) (h2:AD n n = true) (h3:Ag n = true) (h4:ilt 12 (Gr n u (λi=>(bor (AG false) (isW (f i)))) (u i)) = false):Ah (Ft L) (Kq n f) (I3 n f u v i j) = some (.nm,⟨(jsV 133 0 (λ_=>.und) [(1,(.sl 6 n (λi=>(eV (f i))))),(4,(iV 0)),(5,(iV 0)),(6,(nV n)),(13,(.ref 0)),(16,(iV (wr .i64 (Af (ofNat i) 1))))]),[(.row 3 1 n (λk=>(iV (u k)))),(.row 3 1 n (λk=>(iV (v k))))]⟩):=by
 exact Aa (ks:=[kn h0,kn h1,kn h14,kL n,kL n,kn h2,kn h3,kn h4]) (by kernel_rfl)
theorem AgC (h0:ilt (ofNat i) (ofNat n) = true) (h1:Ak (ile 0 (ofNat i)) (ilt (ofNat i) (ofNat n)) = true) (h14:nlt i n = true) (h2:AD n n = true) (h3:Ag n = true) (h4:ilt 12 (Gr n u (λi=>(bor (AG false) (isW (f i)))) (u i)) = true):Ah (Ft L) (Kq n f) (I3 n f u v i j) = some (.rt,⟨(jsV 133 0 (λ_=>.und) [(4,(iV 45)),(5,(nV i))]),[]⟩):=by
 exact Aa (ks:=[kn h0,kn h1,kn h14,kL n,kL n,kn h2,kn h3,kn h4]) (by kernel_rfl)
end
def W3 (_:Nat) (_:Nat->E6) (_ _:Int) (_ _:Nat) (_ _:Nat->Int) (_:Nat):Nat->V:=lkV A9 [(0,.und),(2,.und),(3,.und),(7,.und),(8,.und),(9,.und),(10,.und),(11,.und),(12,.und),(14,.und),(15,.und),(17,.und),(18,.und),(19,.und),(20,.und),(21,.und),(22,.und),(23,.und),(24,.und),(25,.und),(26,.und),(27,.und),(28,.und),(29,.und),(30,.und),(31,.und),(32,.und),(33,.und),(34,.und),(35,.und),(36,.und),(37,.und),(38,.und),(39,.und),(40,.und),(41,.und),(42,.und),(43,.und),(44,.und),(45,.und),(46,.und),(47,.und),(48,.und),(49,.und),(50,.und),(51,.und),(52,.und),(53,.und),(54,.und),(55,.und),(56,.und),(57,.und),(58,.und),(59,.und),(60,.und),(61,.und),(62,.und),(63,.und),(64,.und),(65,.und),(66,.und),(67,.und),(68,.und),(69,.und),(70,.und),(71,.und),(72,.und),(73,.und),(74,.und),(75,.und),(76,.und),(77,.und),(78,.und),(79,.und),(80,.und),(81,.und),(82,.und),(83,.und),(84,.und),(85,.und),(86,.und),(87,.und),(88,.und),(89,.und),(90,.und),(91,.und),(92,.und),(93,.und),(94,.und),(95,.und),(96,.und),(97,.und),(98,.und),(99,.und),(100,.und),(101,.und),(102,.und),(103,.und),(104,.und),(105,.und),(106,.und),(107,.und),(108,.und),(109,.und),(110,.und),(111,.und),(112,.und),(113,.und),(114,.und),(115,.und),(116,.und),(117,.und),(118,.und),(119,.und),(120,.und),(121,.und),(122,.und),(123,.und),(124,.und),(125,.und),(126,.und),(127,.und),(128,.und),(129,.und),(130,.und),(131,.und),(132,.und)]
section
variable (L:LT) (p0:PT) (n:Nat) (f:Nat->E6) (x y:Int) (i:Nat)
include L p0 n f x y i
theorem Afl (h0:ilt (ofNat n) 2 = false) (h1:ilt 16 (ofNat n) = false) (hp0:p0 (C7 (onP 0 p0 (Vp n f x y i) L)) (EY n f 0 0 0 (M1 n f )) = true):(Ar (Ai tab ⟨Am Dc,(onP 0 p0 (Vp n f x y i) L),Gl⟩ Try.f19 [iV 2,Az n f] [])).sem = some ((.tup [(iV 30),(nV i)]),[]):=by
 exact Aa (ks:=[kN (⟨ieq 2 1,false,rfl⟩),kN (⟨ieq 2 1,false,rfl⟩),kN (⟨ieq 2 1,false,rfl⟩),kN (kI 2),kn h0,kn h0,kn h0,kn h1,kn hp0]) (by kernel_rfl)
theorem Afk (h0:ilt (ofNat n) 2 = false) (h1:ilt 16 (ofNat n) = false) (hp0:p0 (C7 (onP 0 p0 (Vo n f x y i) L)) (EY n f 0 0 0 (M1 n f )) = true):(Ar (Ai tab ⟨Am Dc,(onP 0 p0 (Vo n f x y i) L),Gl⟩ Try.f19 [iV 2,Az n f] [])).sem = some ((.tup [(iV 5),(nV i)]),[]):=by
 exact Aa (ks:=[kN (⟨ieq 2 1,false,rfl⟩),kN (⟨ieq 2 1,false,rfl⟩),kN (⟨ieq 2 1,false,rfl⟩),kN (kI 2),kn h0,kn h0,kn h0,kn h1,kn hp0]) (by kernel_rfl)
end
section
variable (L:LT) (p0:PT) (p2:PT) (n:Nat) (f:Nat->E6) (x y:Int) (i:Nat) (i2:Nat)
include L p0 p2 n f x y i i2
theorem Afj (h0:ilt (ofNat n) 2 = false) (h1:ilt 16 (ofNat n) = false) (hp0:p0 (C7 (onP 0 p0 (Ca n f x y i) (onP 2 p2 (KJ n f x y i2) L))) (EY n f 0 0 0 (M1 n f )) = true) (hp2:p2 (CY (onP 0 p0 (Ca n f x y i) (onP 2 p2 (KJ n f x y i2) L))) (Et n f x y 0 (IP n f x y i)) = true):(Ar (Ai tab ⟨Am Dc,(onP 0 p0 (Ca n f x y i) (onP 2 p2 (KJ n f x y i2) L)),Gl⟩ Try.f19 [iV 2,Az n f] [])).sem = some ((.tup [(iV 41),(nV i2)]),[]):=by
 exact Aa (ks:=[kN (⟨ieq 2 1,false,rfl⟩),kN (⟨ieq 2 1,false,rfl⟩),kN (⟨ieq 2 1,false,rfl⟩),kN (kI 2),kn h0,kn h0,kn h0,kn h1,kn hp0,kn hp2]) (by kernel_rfl)
theorem Afi (h0:ilt (ofNat n) 2 = false) (h1:ilt 16 (ofNat n) = false) (h2:ilt x 2 = true) (hp0:p0 (C7 (onP 0 p0 (Ca n f x y i) (onP 2 p2 (B7 n f x y i2) L))) (EY n f 0 0 0 (M1 n f )) = true) (hp2:p2 (CY (onP 0 p0 (Ca n f x y i) (onP 2 p2 (B7 n f x y i2) L))) (Et n f x y 0 (IP n f x y i)) = true):(Ar (Ai tab ⟨Am Dc,(onP 0 p0 (Ca n f x y i) (onP 2 p2 (B7 n f x y i2) L)),Gl⟩ Try.f19 [iV 2,Az n f] [])).sem = some ((.tup [(iV 42),(iV 0)]),[]):=by
 exact Aa (ks:=[kN (⟨ieq 2 1,false,rfl⟩),kN (⟨ieq 2 1,false,rfl⟩),kN (⟨ieq 2 1,false,rfl⟩),kN (kI 2),kn h0,kn h0,kn h0,kn h1,kn hp0,kn hp2,kn h2]) (by kernel_rfl)
theorem Aff (h0:ilt (ofNat n) 2 = false) (h1:ilt 16 (ofNat n) = false) (h2:ilt x 2 = false) (h3:ilt y 2 = true) (hp0:p0 (C7 (onP 0 p0 (Ca n f x y i) (onP 2 p2 (B7 n f x y i2) L))) (EY n f 0 0 0 (M1 n f )) = true) (hp2:p2 (CY (onP 0 p0 (Ca n f x y i) (onP 2 p2 (B7 n f x y i2) L))) (Et n f x y 0 (IP n f x y i)) = true):(Ar (Ai tab ⟨Am Dc,(onP 0 p0 (Ca n f x y i) (onP 2 p2 (B7 n f x y i2) L)),Gl⟩ Try.f19 [iV 2,Az n f] [])).sem = some ((.tup [(iV 43),(iV 0)]),[]):=by
 exact Aa (ks:=[kN (⟨ieq 2 1,false,rfl⟩),kN (⟨ieq 2 1,false,rfl⟩),kN (⟨ieq 2 1,false,rfl⟩),kN (kI 2),kn h0,kn h0,kn h0,kn h1,kn hp0,kn hp2,kn h2,kn h3]) (by kernel_rfl)
end
theorem Afe (L:LT) (p0:PT) (p2:PT) (p4:PT) (n:Nat) (f:Nat->E6) (x y:Int) (i:Nat) (i2 i4:Nat) (h0:ilt (ofNat n) 2 = false) (h1:ilt 16 (ofNat n) = false) (h2:ilt x 2 = false) (h3:ilt y 2 = false) (h4:Bj n = true) (hp0:p0 (C7 (onP 0 p0 (Ca n f x y i) (onP 2 p2 (B7 n f x y i2) (onP 4 p4 (Il n f (pO n f) (pM n f) i4) L)))) (EY n f 0 0 0 (M1 n f )) = true) (hp2:p2 (CY (onP 0 p0 (Ca n f x y i) (onP 2 p2 (B7 n f x y i2) (onP 4 p4 (Il n f (pO n f) (pM n f) i4) L)))) (Et n f x y 0 (IP n f x y i)) = true) (hp4:p4 (DN (onP 0 p0 (Ca n f x y i) (onP 2 p2 (B7 n f x y i2) (onP 4 p4 (Il n f (pO n f) (pM n f) i4) L)))) (FM n f (pO n f) (pM n f) 0 (Ri n f x y i i2)) = true):(Ar (Ai tab ⟨Am Dc,(onP 0 p0 (Ca n f x y i) (onP 2 p2 (B7 n f x y i2) (onP 4 p4 (Il n f (pO n f) (pM n f) i4) L))),Gl⟩ Try.f19 [iV 2,Az n f] [])).sem = some ((.tup [(iV 44),(nV i4)]),[]):=by
 exact Aa (ks:=[kN (⟨ieq 2 1,false,rfl⟩),kN (⟨ieq 2 1,false,rfl⟩),kN (⟨ieq 2 1,false,rfl⟩),kN (kI 2),kn h0,kn h0,kn h0,kn h1,kn hp0,kn hp2,kn h2,kn h3,kL n,kn h4,kL n,kn h4,kn hp4]) (by kernel_rfl)
section
variable (L:LT) (p0:PT) (p2:PT) (p4:PT) (p6:PT) (n:Nat) (f:Nat->E6) (x y:Int) (i:Nat) (i2 i4 i6:Nat)
include L p0 p2 p4 p6 n f x y i i2 i4 i6
theorem Afm (h0:ilt (ofNat n) 2 = false) (h1:ilt 16 (ofNat n) = false) (h2:ilt x 2 = false) (h3:ilt y 2 = false) (h4:Bj n = true) (hp0:p0 (C7 (onP 0 p0 (Ca n f x y i) (onP 2 p2 (B7 n f x y i2) (onP 4 p4 (Dn n f (pO n f) (pM n f) i4) (onP 6 p6 (GF n f (pO n f) (pM n f) i6) L))))) (EY n f 0 0 0 (M1 n f )) = true) (hp2:p2 (CY (onP 0 p0 (Ca n f x y i) (onP 2 p2 (B7 n f x y i2) (onP 4 p4 (Dn n f (pO n f) (pM n f) i4) (onP 6 p6 (GF n f (pO n f) (pM n f) i6) L))))) (Et n f x y 0 (IP n f x y i)) = true) (hp4:p4 (DN (onP 0 p0 (Ca n f x y i) (onP 2 p2 (B7 n f x y i2) (onP 4 p4 (Dn n f (pO n f) (pM n f) i4) (onP 6 p6 (GF n f (pO n f) (pM n f) i6) L))))) (FM n f (pO n f) (pM n f) 0 (Ri n f x y i i2)) = true) (hp6:p6 (Ft (onP 0 p0 (Ca n f x y i) (onP 2 p2 (B7 n f x y i2) (onP 4 p4 (Dn n f (pO n f) (pM n f) i4) (onP 6 p6 (GF n f (pO n f) (pM n f) i6) L))))) (I3 n f (pO n f) (pM n f) 0 (W3 n f x y i i2 (pO n f) (pM n f) i4)) = true):(Ar (Ai tab ⟨Am Dc,(onP 0 p0 (Ca n f x y i) (onP 2 p2 (B7 n f x y i2) (onP 4 p4 (Dn n f (pO n f) (pM n f) i4) (onP 6 p6 (GF n f (pO n f) (pM n f) i6) L)))),Gl⟩ Try.f19 [iV 2,Az n f] [])).sem = some ((.tup [(iV 45),(nV i6)]),[]):=by
 exact Aa (ks:=[kN (⟨ieq 2 1,false,rfl⟩),kN (⟨ieq 2 1,false,rfl⟩),kN (⟨ieq 2 1,false,rfl⟩),kN (kI 2),kn h0,kn h0,kn h0,kn h1,kn hp0,kn hp2,kn h2,kn h3,kL n,kn h4,kL n,kn h4,kn hp4,kn hp6]) (by kernel_rfl)
theorem Afd (h0:ilt (ofNat n) 2 = false) (h1:ilt 16 (ofNat n) = false) (h2:ilt x 2 = false) (h3:ilt y 2 = false) (h4:Bj n = true) (hp0:p0 (C7 (onP 0 p0 (Ca n f x y i) (onP 2 p2 (B7 n f x y i2) (onP 4 p4 (Dn n f (pO n f) (pM n f) i4) (onP 6 p6 (GE n f (pO n f) (pM n f) i6) L))))) (EY n f 0 0 0 (M1 n f )) = true) (hp2:p2 (CY (onP 0 p0 (Ca n f x y i) (onP 2 p2 (B7 n f x y i2) (onP 4 p4 (Dn n f (pO n f) (pM n f) i4) (onP 6 p6 (GE n f (pO n f) (pM n f) i6) L))))) (Et n f x y 0 (IP n f x y i)) = true) (hp4:p4 (DN (onP 0 p0 (Ca n f x y i) (onP 2 p2 (B7 n f x y i2) (onP 4 p4 (Dn n f (pO n f) (pM n f) i4) (onP 6 p6 (GE n f (pO n f) (pM n f) i6) L))))) (FM n f (pO n f) (pM n f) 0 (Ri n f x y i i2)) = true) (hp6:p6 (Ft (onP 0 p0 (Ca n f x y i) (onP 2 p2 (B7 n f x y i2) (onP 4 p4 (Dn n f (pO n f) (pM n f) i4) (onP 6 p6 (GE n f (pO n f) (pM n f) i6) L))))) (I3 n f (pO n f) (pM n f) 0 (W3 n f x y i i2 (pO n f) (pM n f) i4)) = true):(Ar (Ai tab ⟨Am Dc,(onP 0 p0 (Ca n f x y i) (onP 2 p2 (B7 n f x y i2) (onP 4 p4 (Dn n f (pO n f) (pM n f) i4) (onP 6 p6 (GE n f (pO n f) (pM n f) i6) L)))),Gl⟩ Try.f19 [iV 2,Az n f] [])).sem = some ((.tup [(iV 0),(iV 0)]),[]):=by
 exact Aa (ks:=[kN (⟨ieq 2 1,false,rfl⟩),kN (⟨ieq 2 1,false,rfl⟩),kN (⟨ieq 2 1,false,rfl⟩),kN (kI 2),kn h0,kn h0,kn h0,kn h1,kn hp0,kn hp2,kn h2,kn h3,kL n,kn h4,kL n,kn h4,kn hp4,kn hp6]) (by kernel_rfl)
end
section
variable (L:LT) (n:Nat) (f:Nat->E6)
include L n f
theorem Afh (h0:ilt (ofNat n) 2 = true):(Ar (Ai tab ⟨Am Dc,L,Gl⟩ Try.f19 [iV 2,Az n f] [])).sem = some ((.tup [(iV 40),(iV 0)]),[]):=by
 exact Aa (ks:=[kN (⟨ieq 2 1,false,rfl⟩),kN (⟨ieq 2 1,false,rfl⟩),kN (⟨ieq 2 1,false,rfl⟩),kN (kI 2),kn h0,kn h0,kn h0,kT]) (by kernel_rfl)
theorem Afg (h0:ilt (ofNat n) 2 = false) (h1:ilt 16 (ofNat n) = true):(Ar (Ai tab ⟨Am Dc,L,Gl⟩ Try.f19 [iV 2,Az n f] [])).sem = some ((.tup [(iV 40),(iV 0)]),[]):=by
 exact Aa (ks:=[kN (⟨ieq 2 1,false,rfl⟩),kN (⟨ieq 2 1,false,rfl⟩),kN (⟨ieq 2 1,false,rfl⟩),kN (kI 2),kn h0,kn h0,kn h0,kn h1]) (by kernel_rfl)
end
theorem N9 (L:LT) (n:Nat) (f:Nat->E6) (hn:n <= 4611686018427387904):∀ (d i:Nat) (j:Nat->V) (q:Nat),n = i+d->d < q ->
  (A4 (C7 L) (Ko n f) q (EY n f (ofNat (Al (λk=>Ax (f k)) i)) (ofNat (Al (λk=>Aw (f k)) i)) i j)).sem = some (match Bd (C3 2 f) d i with
   | none=>Ca n f (ofNat (Al (λk=>Ax (f k)) n)) (ofNat (Al (λk=>Aw (f k)) n)) n
   | some t=>match ieq (DT 2 (f t)) 0 with
    | false=>Vp n f (ofNat (Al (λk=>Ax (f k)) t)) (ofNat (Al (λk=>Aw (f k)) t)) t
    | true=>Vo n f (ofNat (Al (λk=>Ax (f k)) t)) (ofNat (Al (λk=>Aw (f k)) t)) t)
 | 0,i,j,q+1,h,_=>by
  have:n = i:=by omega
  subst this
  exact Ab (AhE L n f (ofNat (Al (λk=>Ax (f k)) n)) (ofNat (Al (λk=>Aw (f k)) n)) n j (A6 (Nat.le_refl _)))
 | d+1,i,j,q+1,h,h2=>by
  have hl:i < n:=by omega
  have ho:=Be (λk=>Ax (f k)) i
  have hm:=Be (λk=>Aw (f k)) i
  cases c1:ieq (Bb (f i)) 0 with
  | false =>
   have c1':ieq (DT 2 (f i)) 0 = false:=c1
   rw [BV (show C3 2 f i = true by rw [C3,c1']; rfl)]
   simp only [c1']
   exact Ab (AhD L n f (ofNat (Al (λk=>Ax (f k)) i)) (ofNat (Al (λk=>Aw (f k)) i)) i j (ofNat_lt hl) (Ap hl) c1)
  | true =>
   have c1':ieq (DT 2 (f i)) 0 = true:=c1
   cases c2:Hm 2 (f i) with
   | false =>
    rw [BV (show C3 2 f i = true by rw [C3,c1',c2]; rfl)]
    simp only [c1']
    exact Ab (AhC L n f (ofNat (Al (λk=>Ax (f k)) i)) (ofNat (Al (λk=>Aw (f k)) i)) i j (ofNat_lt hl) (Ap hl) c1 c2)
   | true =>
    cases c3:Ax (f i) with
    | false =>
     cases c4:Aw (f i) with
     | false =>
      rw [B1 (show C3 2 f i = false by rw [C3,show ieq (DT 2 (f i)) 0 = true from c1,c2]; rfl),Ab (Ac1 L n f (ofNat (Al (λk=>Ax (f k)) i)) (ofNat (Al (λk=>Aw (f k)) i)) i j (ofNat_lt hl) (Ap hl) c1 c2 c3 c4),Aq,Ao hl hn,<- By (p:=(λk=>Ax (f k))) c3,<- By (p:=(λk=>Aw (f k))) c4]
      exact N9 L n f hn d (i+1) (λ_=>.und) q (by omega) (by omega)
     | true =>
      rw [B1 (show C3 2 f i = false by rw [C3,show ieq (DT 2 (f i)) 0 = true from c1,c2]; rfl),Ab (Ac2 L n f (ofNat (Al (λk=>Ax (f k)) i)) (ofNat (Al (λk=>Aw (f k)) i)) i j (ofNat_lt hl) (Ap hl) c1 c2 c3 c4),Aq,Ao hl hn,Ao (show Al (λk=>Aw (f k)) i < n by omega) hn,<- By (p:=(λk=>Ax (f k))) c3,<- Bl (p:=(λk=>Aw (f k))) c4]
      exact N9 L n f hn d (i+1) (λ_=>.und) q (by omega) (by omega)
    | true =>
     cases c4:Aw (f i) with
     | false =>
      rw [B1 (show C3 2 f i = false by rw [C3,show ieq (DT 2 (f i)) 0 = true from c1,c2]; rfl),Ab (Acz L n f (ofNat (Al (λk=>Ax (f k)) i)) (ofNat (Al (λk=>Aw (f k)) i)) i j (ofNat_lt hl) (Ap hl) c1 c2 c3 c4),Aq,Ao hl hn,Ao (show Al (λk=>Ax (f k)) i < n by omega) hn,<- Bl (p:=(λk=>Ax (f k))) c3,<- By (p:=(λk=>Aw (f k))) c4]
      exact N9 L n f hn d (i+1) (λ_=>.und) q (by omega) (by omega)
     | true =>
      rw [B1 (show C3 2 f i = false by rw [C3,show ieq (DT 2 (f i)) 0 = true from c1,c2]; rfl),Ab (Ac0 L n f (ofNat (Al (λk=>Ax (f k)) i)) (ofNat (Al (λk=>Aw (f k)) i)) i j (ofNat_lt hl) (Ap hl) c1 c2 c3 c4),Aq,Ao hl hn,Ao (show Al (λk=>Ax (f k)) i < n by omega) hn,Ao (show Al (λk=>Aw (f k)) i < n by omega) hn,<- Bl (p:=(λk=>Ax (f k))) c3,<- Bl (p:=(λk=>Aw (f k))) c4]
      exact N9 L n f hn d (i+1) (λ_=>.und) q (by omega) (by omega)
theorem Wa (L:LT) (n:Nat) (f:Nat->E6) (x y:Int) (hn:n <= 4611686018427387904):∀ (d i:Nat) (j:Nat->V) (q:Nat),n = i+d->d < q ->
  (A4 (CY L) (Ks n f) q (Et n f x y i j)).sem = some (match Bd (Fl n f) d i with
   | none=>B7 n f x y 0
   | some t=>KJ n f x y t)
 | 0,i,j,q+1,h,_=>by
  have:n = i:=by omega
  subst this
  exact Ab (Ah7 L n f x y n j (A6 (Nat.le_refl _)))
 | d+1,i,j,q+1,h,h2=>by
  have hl:i < n:=by omega
  have e1:=NP hl hn
  have hb:Ak (ile 0 (Ae (wr .i64 (Af (ofNat i) 1)) (ofNat n))) (ilt (Ae (wr .i64 (Af (ofNat i) 1)) (ofNat n)) (ofNat n)) = true:=by
   rw [e1]; exact Ap (Nat.mod_lt _ (by omega))
  have e2:toN (ofNat ((i+1) % n)) = (i+1) % n:=rfl
  cases c1:ieq (f i).dst (f ((i+1) % n)).src with
  | false =>
   rw [BV (show Fl n f i = true by rw [Fl,c1]; rfl)]
   exact Ab (Ah6 L n f x y i j (ofNat_lt hl) (Ap hl) (X8 hl) hb (by rw [e1,e2]; exact c1))
  | true =>
   rw [B1 (show Fl n f i = false by rw [Fl,c1]; rfl),Ab (Ah5 L n f x y i j (ofNat_lt hl) (Ap hl) (X8 hl) hb (by rw [e1,e2]; exact c1)),Aq,Ao hl hn]
   exact Wa L n f x y hn d (i+1) (λ_=>.und) q (by omega) (by omega)
theorem QC (L:LT) (n:Nat) (f:Nat->E6) (u v:Nat->Int) (hn:n <= 4611686018427387904):∀ (d i:Nat) (j:Nat->V) (q:Nat),n = i+d->d < q ->
  (A4 (DN L) (IK n f) q (FM n f u v i j)).sem = some (match Bd (AJ n v (λi=>isW (f i)) 2) d i with
   | none=>Dn n f u v 0
   | some t=>Il n f u v t)
 | 0,i,j,q+1,h,_=>by
  have:n = i:=by omega
  subst this
  exact Ab (AgV L n f u v n j (A6 (Nat.le_refl _)))
 | d+1,i,j,q+1,h,h2=>by
  have hl:i < n:=by omega
  have hs:Ag n = true:=decide_eq_true hn
  cases c1:ieq (f i).src 2 with
  | false =>
   rw [B1 (show AJ n v (λi=>isW (f i)) 2 i = false by rw [AJ,isW,c1]; rfl),Ab (AgY L n f u v i j (ofNat_lt hl) (Ap hl) c1),Aq,Ao hl hn]
   exact QC L n f u v hn d (i+1) (λ_=>.und) q (by omega) (by omega)
  | true =>
   cases c2:ilt 2 (Gr n v (λi=>(bor (AG true) (isW (f i)))) (v i)) with
   | false =>
    rw [B1 (show AJ n v (λi=>isW (f i)) 2 i = false by rw [AJ,isW,c1]; exact c2),Ab (AgX L n f u v i j (ofNat_lt hl) (Ap hl) c1 (show nlt i n = true by simpa [nlt] using hl) (Nat.beq_refl n) hs c2),Aq,Ao hl hn]
    exact QC L n f u v hn d (i+1) (λ_=>.und) q (by omega) (by omega)
   | true =>
    rw [BV (show AJ n v (λi=>isW (f i)) 2 i = true by rw [AJ,isW,c1]; exact c2)]
    exact Ab (AgW L n f u v i j (ofNat_lt hl) (Ap hl) c1 (show nlt i n = true by simpa [nlt] using hl) (Nat.beq_refl n) hs c2)
theorem VY (L:LT) (n:Nat) (f:Nat->E6) (u v:Nat->Int) (hn:n <= 4611686018427387904):∀ (d i:Nat) (j:Nat->V) (q:Nat),n = i+d->d < q ->
  (A4 (Ft L) (Kq n f) q (I3 n f u v i j)).sem = some (match Bd (AJ n u (λ_=>true) 12) d i with
   | none=>GE n f u v 0
   | some t=>GF n f u v t)
 | 0,i,j,q+1,h,_=>by
  have:n = i:=by omega
  subst this
  exact Ab (AgB L n f u v n j (A6 (Nat.le_refl _)))
 | d+1,i,j,q+1,h,h2=>by
  have hl:i < n:=by omega
  have hs:Ag n = true:=decide_eq_true hn
  cases c2:ilt 12 (Gr n u (λi=>(bor (AG false) (isW (f i)))) (u i)) with
  | false =>
   rw [B1 (show AJ n u (λ_=>true) 12 i = false from c2),Ab (AgD L n f u v i j (ofNat_lt hl) (Ap hl) (show nlt i n = true by simpa [nlt] using hl) (Nat.beq_refl n) hs c2),Aq,Ao hl hn]
   exact VY L n f u v hn d (i+1) (λ_=>.und) q (by omega) (by omega)
  | true =>
   rw [BV (show AJ n u (λ_=>true) 12 i = true from c2)]
   exact Ab (AgC L n f u v i j (ofNat_lt hl) (Ap hl) (show nlt i n = true by simpa [nlt] using hl) (Nat.beq_refl n) hs c2)
def QV (n:Nat) (f:Nat->E6):List (Nat × Lp):=[(0,Ko n f),(2,Ks n f),(4,IK n f),(6,Kq n f)]
theorem AbG (n:Nat) (f:Nat->E6) (hF:Bj n = true) :
  (Ar (Ai tab (AI Gl Dc (QV n f)) Try.f19 [iV 2,Az n f] [])).sem = some (.tup [iV (JE 2 n f).1,iV (JE 2 n f).2],[]):=by
 have hL:=AE (QV n f)
 have hn:=CO (ET hF)
 unfold JE
 cases hA:ilt (ofNat n) 2 with
 | true=>exact Afh _ n f hA
 | false =>
  cases hB:ilt 16 (ofNat n) with
  | true=>exact Afg _ n f hA hB
  | false =>
   have h0:=λL j=>N9 L n f hn n 0 j (n+1) (by omega) (by omega)
   have h2:=λL j=>Wa L n f (ofNat (Al (λk=>Ax (f k)) n)) (ofNat (Al (λk=>Aw (f k)) n)) hn n 0 j (n+1) (by omega) (by omega)
   have h4:=λL j=>QC L n f (pO n f) (pM n f) hn n 0 j (n+1) (by omega) (by omega)
   have h6:=λL j=>VY L n f (pO n f) (pM n f) hn n 0 j (n+1) (by omega) (by omega)
   show _ = some (V.tup [iV (match D6 2 n f,ieq (D6 2 n f).1 0 with | r,false=>r | _,true=>Fi n f).1,iV (match D6 2 n f,ieq (D6 2 n f).1 0 with | r,false=>r | _,true=>Fi n f).2],[])
   unfold D6
   cases c1:Bd (C3 2 f) n 0 with
   | some t =>
    rw [c1] at h0
    cases c2:ieq (DT 2 (f t)) 0 with
    | false =>
     simp only [c2] at h0 ⊢
     exact A2 (As hL hL) _ (Afl _ _ n f (ofNat (Al (λk=>Ax (f k)) t)) (ofNat (Al (λk=>Aw (f k)) t)) t hA hB (Aj (h0 _ _)))
    | true =>
     simp only [c2] at h0 ⊢
     exact A2 (As hL hL) _ (Afk _ _ n f (ofNat (Al (λk=>Ax (f k)) t)) (ofNat (Al (λk=>Aw (f k)) t)) t hA hB (Aj (h0 _ _)))
   | none =>
    rw [c1] at h0
    cases c2:Bd (Fl n f) n 0 with
    | some t =>
     rw [c2] at h2
     exact A2 (As (As hL hL) hL) _ (Afj _ _ _ n f (ofNat (Al (λk=>Ax (f k)) n)) (ofNat (Al (λk=>Aw (f k)) n)) n t hA hB (Aj (h0 _ _)) (Aj (h2 _ _)))
    | none =>
     rw [c2] at h2
     show _ = some (V.tup [iV (Fi n f).1,iV (Fi n f).2],[])
     unfold Fi
     cases c3:ilt (Im n f) 2 with
     | true=>exact A2 (As (As hL hL) hL) _ (Afi _ _ _ n f (ofNat (Al (λk=>Ax (f k)) n)) (ofNat (Al (λk=>Aw (f k)) n)) n 0 hA hB c3 (Aj (h0 _ _)) (Aj (h2 _ _)))
     | false =>
      cases c4:ilt (JC n f) 2 with
      | true=>exact A2 (As (As hL hL) hL) _ (Aff _ _ _ n f (ofNat (Al (λk=>Ax (f k)) n)) (ofNat (Al (λk=>Aw (f k)) n)) n 0 hA hB c3 c4 (Aj (h0 _ _)) (Aj (h2 _ _)))
      | false =>
       show _ = some (V.tup [iV (JD n f).1,iV (JD n f).2],[])
       unfold JD crR
       cases c5:Bd (AJ n (A0 (λk=>Aw (f k)) n) (λi=>isW (f i)) 2) n 0 with
       | some t =>
        rw [show (Bd (AJ n (pM n f) (λi=>isW (f i)) 2) n 0) = some t from c5] at h4
        exact A2 (As (As (As hL hL) hL) hL) _ (Afe _ _ _ _ n f (ofNat (Al (λk=>Ax (f k)) n)) (ofNat (Al (λk=>Aw (f k)) n)) n 0 t hA hB c3 c4 hF (Aj (h0 _ _)) (Aj (h2 _ _)) (Aj (h4 _ _)))
       | none =>
        rw [show (Bd (AJ n (pM n f) (λi=>isW (f i)) 2) n 0) = none from c5] at h4
        cases c6:Bd (AJ n (A0 (λk=>Ax (f k)) n) (λ_=>true) 12) n 0 with
        | some t =>
         rw [show (Bd (AJ n (pO n f) (λ_=>true) 12) n 0) = some t from c6] at h6
         exact A2 (As (As (As (As hL hL) hL) hL) hL) _ (Afm _ _ _ _ _ n f (ofNat (Al (λk=>Ax (f k)) n)) (ofNat (Al (λk=>Aw (f k)) n)) n 0 0 t hA hB c3 c4 hF (Aj (h0 _ _)) (Aj (h2 _ _)) (Aj (h4 _ _)) (Aj (h6 _ _)))
        | none =>
         rw [show (Bd (AJ n (pO n f) (λ_=>true) 12) n 0) = none from c6] at h6
         exact A2 (As (As (As (As hL hL) hL) hL) hL) _ (Afd _ _ _ _ _ n f (ofNat (Al (λk=>Ax (f k)) n)) (ofNat (Al (λk=>Aw (f k)) n)) n 0 0 0 hA hB c3 c4 hF (Aj (h0 _ _)) (Aj (h2 _ _)) (Aj (h4 _ _)) (Aj (h6 _ _)))
theorem AiY (L:LT) (a:Int) (n:Nat) (f:Nat->E6) (h0:ieq a 1 = false) (h1:ieq a 2 = false):(Ar (Ai tab ⟨Am Dc,L,Gl⟩ Try.f19 [iV a,Az n f] [])).sem = some ((.tup [(iV 1),(iV 0)]),[]):=by
 exact Aa (ks:=[kN (kn h0),kN (kn h0),kN (kn h0),kN (kn h1)]) (by kernel_rfl)
theorem p49:A7 Try.prog Gl 19 Yb:=by
 refine Av AL AN Try.func19 (by kernel_rfl) (by kernel_rfl) λvs v h' h=>?_
 unfold Yb at h
 split at h
 ·rename_i a u
  obtain ⟨n,f,ha,h1⟩:=Ci h
  obtain ⟨hn,hq⟩:=Ad h1
  have:=Ac hq
  simp only [Prod.mk.injEq] at this
  obtain ⟨rfl,rfl⟩:=this
  cases ca:ieq a 1 with
  | true =>
   have h9:=BB ca
   subst h9
   have hx:=AO Qq (QU n f)
   exact ⟨_,AI Gl Dc (QU n f),_,V8 ha,rfl,hx.1,hx.2,AbF n f hn,A8.refl _⟩
  | false =>
   cases cb:ieq a 2 with
   | true =>
    have h9:=BB cb
    subst h9
    have hx:=AO Qq (QV n f)
    exact ⟨_,AI Gl Dc (QV n f),_,V8 ha,rfl,hx.1,hx.2,AbG n f hn,A8.refl _⟩
   | false =>
    have hx:=AO Qq []
    refine ⟨_,AI Gl Dc [],_,V8 ha,rfl,hx.1,hx.2,?_,A8.refl _⟩
    unfold R6
    rw [ca,cb]
    exact AiY _ a n f ca cb
 ·cases h
noncomputable def Fu:List (Nat × (List V->T (V × List Blk))):=(81,Aik) :: (82,V1) :: (87,UB) :: (86,V0) :: []
theorem Qr:AA Try.prog Gl Fu:=.cons p86 <| .cons p87 <| .cons p92 <| .cons p91 .nil
def KM (a:Int) (n:Nat) (f:Nat->E6):Int:=(D6 a n f).1
def AlF (a:Int) (n:Nat) (f:Nat->E6):Int:=(D6 a n f).2
def crI (n:Nat) (l:Nat->Int) (c:Nat->Bool) (q:Int):Int:=(crR n l c q).1
def crB (n:Nat) (l:Nat->Int) (c:Nat->Bool) (q:Int):Bool:=(crR n l c q).2
theorem D2 (p:Nat->Bool) (n:Nat) (hn:n <= 4611686018427387904):okP n (A0 p n) = true:=A3.2 λi hi=>by
 unfold A0
 cases decide (i < n) with
 | false=>rfl
 | true =>
  cases decide (Al p i = Al p n) with
  | true=>rfl
  | false =>
   have:=Be p i
   exact Rr (by omega)
section
variable (L:LT) (n:Nat) (f:Nat->E6)
include L n f
theorem Afq (h0:ilt (ofNat n) 2 = true):(Ar (Ai tab ⟨Am Fu,L,Gl⟩ Try.f50 [iV 1,Az n f] [])).sem = some ((.tup [(iV 40),(iV 0)]),[]):=by
 exact Aa (ks:=[kN (kI 1),kN (kI 1),kN (kI 1),kF,kn h0,kn h0,kn h0,kn h0,kT]) (by kernel_rfl)
theorem Afp (h0:ilt (ofNat n) 2 = false) (h1:ilt 16 (ofNat n) = true):(Ar (Ai tab ⟨Am Fu,L,Gl⟩ Try.f50 [iV 1,Az n f] [])).sem = some ((.tup [(iV 40),(iV 0)]),[]):=by
 exact Aa (ks:=[kN (kI 1),kN (kI 1),kN (kI 1),kF,kn h0,kn h0,kn h0,kn h0,kn h1]) (by kernel_rfl)
theorem Aft (h0:ilt (ofNat n) 2 = false) (h1:ilt 16 (ofNat n) = false) (h2:Bj n = true) (h3:ieq (KM 1 n f) 0 = false):(Ar (Ai tab ⟨Am Fu,L,Gl⟩ Try.f50 [iV 1,Az n f] [])).sem = some ((.tup [(iV (KM 1 n f)),(iV (AlF 1 n f))]),[]):=by
 exact Aa (ks:=[kN (kI 1),kN (kI 1),kN (kI 1),kF,kn h0,kn h0,kn h0,kn h0,kn h1,kL n,kn h2,kN (kn h3)]) (by kernel_rfl)
theorem Afr (h0:ilt (ofNat n) 2 = false) (h1:ilt 16 (ofNat n) = false) (h2:Bj n = true) (h3:ieq (KM 1 n f) 0 = true) (h4:Ag n = true) (h5:ilt (Im n f) 2 = true):(Ar (Ai tab ⟨Am Fu,L,Gl⟩ Try.f50 [iV 1,Az n f] [])).sem = some ((.tup [(iV 42),(iV 0)]),[]):=by
 exact Aa (ks:=[kN (kI 1),kN (kI 1),kN (kI 1),kF,kn h0,kn h0,kn h0,kn h0,kn h1,kL n,kn h2,kN (kn h3),kL n,kn h4,kn h5]) (by kernel_rfl)
theorem Afs (h0:ilt (ofNat n) 2 = false) (h1:ilt 16 (ofNat n) = false) (h2:Bj n = true) (h3:ieq (KM 1 n f) 0 = true) (h4:Ag n = true) (h5:ilt (Im n f) 2 = false) (h6:ilt (JC n f) 2 = true):(Ar (Ai tab ⟨Am Fu,L,Gl⟩ Try.f50 [iV 1,Az n f] [])).sem = some ((.tup [(iV 43),(iV 0)]),[]):=by
 exact Aa (ks:=[kN (kI 1),kN (kI 1),kN (kI 1),kF,kn h0,kn h0,kn h0,kn h0,kn h1,kL n,kn h2,kN (kn h3),kL n,kn h4,kn h5,kL n,kn h4,kn h6]) (by kernel_rfl)
theorem Afo (h0:ilt (ofNat n) 2 = false) (h1:ilt 16 (ofNat n) = false) (h2:Bj n = true) (h3:ieq (KM 1 n f) 0 = true) (h4:Ag n = true) (h5:ilt (Im n f) 2 = false) (h6:ilt (JC n f) 2 = false) (h7:CG 8 (ofNat n) (ofNat n) = true) (h8:AD n n = true) (h9:okP n (A0 (λk=>(Aw (f k))) n) = true) (h10:crB n (A0 (λk=>(Aw (f k))) n) (λi=>(isW (f i))) 2 = true):(Ar (Ai tab ⟨Am Fu,L,Gl⟩ Try.f50 [iV 1,Az n f] [])).sem = some ((.tup [(iV 44),(iV (crI n (A0 (λk=>(Aw (f k))) n) (λi=>(isW (f i))) 2))]),[]):=by
 exact Aa (ks:=[kN (kI 1),kN (kI 1),kN (kI 1),kF,kn h0,kn h0,kn h0,kn h0,kn h1,kL n,kn h2,kN (kn h3),kL n,kn h4,kn h5,kL n,kn h4,kn h6,kL n,kn h7,kL n,kL n,kn h8,kn h4,kn h9,kn h10]) (by kernel_rfl)
theorem Afu (h0:ilt (ofNat n) 2 = false) (h1:ilt 16 (ofNat n) = false) (h2:Bj n = true) (h3:ieq (KM 1 n f) 0 = true) (h4:Ag n = true) (h5:ilt (Im n f) 2 = false) (h6:ilt (JC n f) 2 = false) (h7:CG 8 (ofNat n) (ofNat n) = true) (h8:AD n n = true) (h9:okP n (A0 (λk=>(Aw (f k))) n) = true) (h10:crB n (A0 (λk=>(Aw (f k))) n) (λi=>(isW (f i))) 2 = false) (h11:okP n (A0 (λk=>(Ax (f k))) n) = true) (h12:crB n (A0 (λk=>(Ax (f k))) n) (λ_=>true) 12 = true):(Ar (Ai tab ⟨Am Fu,L,Gl⟩ Try.f50 [iV 1,Az n f] [])).sem = some ((.tup [(iV 45),(iV (crI n (A0 (λk=>(Ax (f k))) n) (λ_=>true) 12))]),[]):=by
 exact Aa (ks:=[kN (kI 1),kN (kI 1),kN (kI 1),kF,kn h0,kn h0,kn h0,kn h0,kn h1,kL n,kn h2,kN (kn h3),kL n,kn h4,kn h5,kL n,kn h4,kn h6,kL n,kn h7,kL n,kL n,kn h8,kn h4,kn h9,kn h10,kL n,kn h7,kL n,kn h4,kn h11,kn h12]) (by kernel_rfl)
theorem Afn (h0:ilt (ofNat n) 2 = false) (h1:ilt 16 (ofNat n) = false) (h2:Bj n = true) (h3:ieq (KM 1 n f) 0 = true) (h4:Ag n = true) (h5:ilt (Im n f) 2 = false) (h6:ilt (JC n f) 2 = false) (h7:CG 8 (ofNat n) (ofNat n) = true) (h8:AD n n = true) (h9:okP n (A0 (λk=>(Aw (f k))) n) = true) (h10:crB n (A0 (λk=>(Aw (f k))) n) (λi=>(isW (f i))) 2 = false) (h11:okP n (A0 (λk=>(Ax (f k))) n) = true) (h12:crB n (A0 (λk=>(Ax (f k))) n) (λ_=>true) 12 = false):(Ar (Ai tab ⟨Am Fu,L,Gl⟩ Try.f50 [iV 1,Az n f] [])).sem = some ((.tup [(iV 0),(iV 0)]),[]):=by
 exact Aa (ks:=[kN (kI 1),kN (kI 1),kN (kI 1),kF,kn h0,kn h0,kn h0,kn h0,kn h1,kL n,kn h2,kN (kn h3),kL n,kn h4,kn h5,kL n,kn h4,kn h6,kL n,kn h7,kL n,kL n,kn h8,kn h4,kn h9,kn h10,kL n,kn h7,kL n,kn h4,kn h11,kn h12]) (by kernel_rfl)
theorem Afy (h0:ilt (ofNat n) 2 = true):(Ar (Ai tab ⟨Am Fu,L,Gl⟩ Try.f50 [iV 2,Az n f] [])).sem = some ((.tup [(iV 40),(iV 0)]),[]):=by
 exact Aa (ks:=[kN (⟨ieq 2 1,false,rfl⟩),kN (⟨ieq 2 1,false,rfl⟩),kN (⟨ieq 2 1,false,rfl⟩),kN (kI 2),kn h0,kn h0,kn h0,kn h0,kT]) (by kernel_rfl)
theorem Afx (h0:ilt (ofNat n) 2 = false) (h1:ilt 16 (ofNat n) = true):(Ar (Ai tab ⟨Am Fu,L,Gl⟩ Try.f50 [iV 2,Az n f] [])).sem = some ((.tup [(iV 40),(iV 0)]),[]):=by
 exact Aa (ks:=[kN (⟨ieq 2 1,false,rfl⟩),kN (⟨ieq 2 1,false,rfl⟩),kN (⟨ieq 2 1,false,rfl⟩),kN (kI 2),kn h0,kn h0,kn h0,kn h0,kn h1]) (by kernel_rfl)
theorem Af1 (h0:ilt (ofNat n) 2 = false) (h1:ilt 16 (ofNat n) = false) (h2:Bj n = true) (h3:ieq (KM 2 n f) 0 = false):(Ar (Ai tab ⟨Am Fu,L,Gl⟩ Try.f50 [iV 2,Az n f] [])).sem = some ((.tup [(iV (KM 2 n f)),(iV (AlF 2 n f))]),[]):=by
 exact Aa (ks:=[kN (⟨ieq 2 1,false,rfl⟩),kN (⟨ieq 2 1,false,rfl⟩),kN (⟨ieq 2 1,false,rfl⟩),kN (kI 2),kn h0,kn h0,kn h0,kn h0,kn h1,kL n,kn h2,kN (kn h3)]) (by kernel_rfl)
theorem Afz (h0:ilt (ofNat n) 2 = false) (h1:ilt 16 (ofNat n) = false) (h2:Bj n = true) (h3:ieq (KM 2 n f) 0 = true) (h4:Ag n = true) (h5:ilt (Im n f) 2 = true):(Ar (Ai tab ⟨Am Fu,L,Gl⟩ Try.f50 [iV 2,Az n f] [])).sem = some ((.tup [(iV 42),(iV 0)]),[]):=by
 exact Aa (ks:=[kN (⟨ieq 2 1,false,rfl⟩),kN (⟨ieq 2 1,false,rfl⟩),kN (⟨ieq 2 1,false,rfl⟩),kN (kI 2),kn h0,kn h0,kn h0,kn h0,kn h1,kL n,kn h2,kN (kn h3),kL n,kn h4,kn h5]) (by kernel_rfl)
theorem Af0 (h0:ilt (ofNat n) 2 = false) (h1:ilt 16 (ofNat n) = false) (h2:Bj n = true) (h3:ieq (KM 2 n f) 0 = true) (h4:Ag n = true) (h5:ilt (Im n f) 2 = false) (h6:ilt (JC n f) 2 = true):(Ar (Ai tab ⟨Am Fu,L,Gl⟩ Try.f50 [iV 2,Az n f] [])).sem = some ((.tup [(iV 43),(iV 0)]),[]):=by
 exact Aa (ks:=[kN (⟨ieq 2 1,false,rfl⟩),kN (⟨ieq 2 1,false,rfl⟩),kN (⟨ieq 2 1,false,rfl⟩),kN (kI 2),kn h0,kn h0,kn h0,kn h0,kn h1,kL n,kn h2,kN (kn h3),kL n,kn h4,kn h5,kL n,kn h4,kn h6]) (by kernel_rfl)
theorem Afw (h0:ilt (ofNat n) 2 = false) (h1:ilt 16 (ofNat n) = false) (h2:Bj n = true) (h3:ieq (KM 2 n f) 0 = true) (h4:Ag n = true) (h5:ilt (Im n f) 2 = false) (h6:ilt (JC n f) 2 = false) (h7:CG 8 (ofNat n) (ofNat n) = true) (h8:AD n n = true) (h9:okP n (A0 (λk=>(Aw (f k))) n) = true) (h10:crB n (A0 (λk=>(Aw (f k))) n) (λi=>(isW (f i))) 2 = true):(Ar (Ai tab ⟨Am Fu,L,Gl⟩ Try.f50 [iV 2,Az n f] [])).sem = some ((.tup [(iV 44),(iV (crI n (A0 (λk=>(Aw (f k))) n) (λi=>(isW (f i))) 2))]),[]):=by
 exact Aa (ks:=[kN (⟨ieq 2 1,false,rfl⟩),kN (⟨ieq 2 1,false,rfl⟩),kN (⟨ieq 2 1,false,rfl⟩),kN (kI 2),kn h0,kn h0,kn h0,kn h0,kn h1,kL n,kn h2,kN (kn h3),kL n,kn h4,kn h5,kL n,kn h4,kn h6,kL n,kn h7,kL n,kL n,kn h8,kn h4,kn h9,kn h10]) (by kernel_rfl)
theorem Af2 (h0:ilt (ofNat n) 2 = false) (h1:ilt 16 (ofNat n) = false) (h2:Bj n = true) (h3:ieq (KM 2 n f) 0 = true) (h4:Ag n = true) (h5:ilt (Im n f) 2 = false) (h6:ilt (JC n f) 2 = false) (h7:CG 8 (ofNat n) (ofNat n) = true) (h8:AD n n = true) (h9:okP n (A0 (λk=>(Aw (f k))) n) = true) (h10:crB n (A0 (λk=>(Aw (f k))) n) (λi=>(isW (f i))) 2 = false) (h11:okP n (A0 (λk=>(Ax (f k))) n) = true) (h12:crB n (A0 (λk=>(Ax (f k))) n) (λ_=>true) 12 = true):(Ar (Ai tab ⟨Am Fu,L,Gl⟩ Try.f50 [iV 2,Az n f] [])).sem = some ((.tup [(iV 45),(iV (crI n (A0 (λk=>(Ax (f k))) n) (λ_=>true) 12))]),[]):=by
 exact Aa (ks:=[kN (⟨ieq 2 1,false,rfl⟩),kN (⟨ieq 2 1,false,rfl⟩),kN (⟨ieq 2 1,false,rfl⟩),kN (kI 2),kn h0,kn h0,kn h0,kn h0,kn h1,kL n,kn h2,kN (kn h3),kL n,kn h4,kn h5,kL n,kn h4,kn h6,kL n,kn h7,kL n,kL n,kn h8,kn h4,kn h9,kn h10,kL n,kn h7,kL n,kn h4,kn h11,kn h12]) (by kernel_rfl)
theorem Afv (h0:ilt (ofNat n) 2 = false) (h1:ilt 16 (ofNat n) = false) (h2:Bj n = true) (h3:ieq (KM 2 n f) 0 = true) (h4:Ag n = true) (h5:ilt (Im n f) 2 = false) (h6:ilt (JC n f) 2 = false) (h7:CG 8 (ofNat n) (ofNat n) = true) (h8:AD n n = true) (h9:okP n (A0 (λk=>(Aw (f k))) n) = true) (h10:crB n (A0 (λk=>(Aw (f k))) n) (λi=>(isW (f i))) 2 = false) (h11:okP n (A0 (λk=>(Ax (f k))) n) = true) (h12:crB n (A0 (λk=>(Ax (f k))) n) (λ_=>true) 12 = false):(Ar (Ai tab ⟨Am Fu,L,Gl⟩ Try.f50 [iV 2,Az n f] [])).sem = some ((.tup [(iV 0),(iV 0)]),[]):=by
 exact Aa (ks:=[kN (⟨ieq 2 1,false,rfl⟩),kN (⟨ieq 2 1,false,rfl⟩),kN (⟨ieq 2 1,false,rfl⟩),kN (kI 2),kn h0,kn h0,kn h0,kn h0,kn h1,kL n,kn h2,kN (kn h3),kL n,kn h4,kn h5,kL n,kn h4,kn h6,kL n,kn h7,kL n,kL n,kn h8,kn h4,kn h9,kn h10,kL n,kn h7,kL n,kn h4,kn h11,kn h12]) (by kernel_rfl)
end
theorem AiZ (L:LT) (a:Int) (n:Nat) (f:Nat->E6) (h0:ieq a 1 = false) (h1:ieq a 2 = false):(Ar (Ai tab ⟨Am Fu,L,Gl⟩ Try.f50 [iV a,Az n f] [])).sem = some ((.tup [(iV 1),(iV 0)]),[]):=by
 exact Aa (ks:=[kN (kn h0),kN (kn h0),kN (kn h0),kN (kn h1)]) (by kernel_rfl)
theorem AbH (n:Nat) (f:Nat->E6) (hF:Bj n = true) :
  (Ar (Ai tab (AI Gl Fu []) Try.f50 [iV 1,Az n f] [])).sem = some (.tup [iV (JE 1 n f).1,iV (JE 1 n f).2],[]):=by
 have hn:=CO (ET hF)
 have hs:Ag n = true:=decide_eq_true hn
 have hk:CG 8 (ofNat n) (ofNat n) = true:=by
  have:=Hs hF
  simp only [CG,Bool.and_eq_true,decide_eq_true_eq,Int.ofNat_eq_natCast]
  omega
 unfold JE
 cases hA:ilt (ofNat n) 2 with
 | true=>exact Afq _ n f hA
 | false =>
  cases hB:ilt 16 (ofNat n) with
  | true=>exact Afp _ n f hA hB
  | false =>
   show _ = some (V.tup [iV (match D6 1 n f,ieq (D6 1 n f).1 0 with | r,false=>r | _,true=>Fi n f).1,iV (match D6 1 n f,ieq (D6 1 n f).1 0 with | r,false=>r | _,true=>Fi n f).2],[])
   cases c1:ieq (D6 1 n f).1 0 with
   | false=>exact Aft _ n f hA hB hF c1
   | true =>
    show _ = some (V.tup [iV (Fi n f).1,iV (Fi n f).2],[])
    unfold Fi
    cases c3:ilt (Im n f) 2 with
    | true=>exact Afr _ n f hA hB hF c1 hs c3
    | false =>
     cases c4:ilt (JC n f) 2 with
     | true=>exact Afs _ n f hA hB hF c1 hs c3 c4
     | false =>
      show _ = some (V.tup [iV (JD n f).1,iV (JD n f).2],[])
      unfold JD
      cases c5:crB n (A0 (λk=>Aw (f k)) n) (λi=>isW (f i)) 2 with
      | true =>
       rw [show crR n (A0 (λk=>Aw (f k)) n) (λi=>isW (f i)) 2 = (crI n (A0 (λk=>Aw (f k)) n) (λi=>isW (f i)) 2,true) from Prod.ext rfl c5]
       exact Afo _ n f hA hB hF c1 hs c3 c4 hk (Nat.beq_refl n) (D2 _ n hn) c5
      | false =>
       rw [show crR n (A0 (λk=>Aw (f k)) n) (λi=>isW (f i)) 2 = (crI n (A0 (λk=>Aw (f k)) n) (λi=>isW (f i)) 2,false) from Prod.ext rfl c5]
       cases c6:crB n (A0 (λk=>Ax (f k)) n) (λ_=>true) 12 with
       | true =>
        rw [show crR n (A0 (λk=>Ax (f k)) n) (λ_=>true) 12 = (crI n (A0 (λk=>Ax (f k)) n) (λ_=>true) 12,true) from Prod.ext rfl c6]
        exact Afu _ n f hA hB hF c1 hs c3 c4 hk (Nat.beq_refl n) (D2 _ n hn) c5 (D2 _ n hn) c6
       | false =>
        rw [show crR n (A0 (λk=>Ax (f k)) n) (λ_=>true) 12 = (crI n (A0 (λk=>Ax (f k)) n) (λ_=>true) 12,false) from Prod.ext rfl c6]
        exact Afn _ n f hA hB hF c1 hs c3 c4 hk (Nat.beq_refl n) (D2 _ n hn) c5 (D2 _ n hn) c6
theorem AbI (n:Nat) (f:Nat->E6) (hF:Bj n = true) :
  (Ar (Ai tab (AI Gl Fu []) Try.f50 [iV 2,Az n f] [])).sem = some (.tup [iV (JE 2 n f).1,iV (JE 2 n f).2],[]):=by
 have hn:=CO (ET hF)
 have hs:Ag n = true:=decide_eq_true hn
 have hk:CG 8 (ofNat n) (ofNat n) = true:=by
  have:=Hs hF
  simp only [CG,Bool.and_eq_true,decide_eq_true_eq,Int.ofNat_eq_natCast]
  omega
 unfold JE
 cases hA:ilt (ofNat n) 2 with
 | true=>exact Afy _ n f hA
 | false =>
  cases hB:ilt 16 (ofNat n) with
  | true=>exact Afx _ n f hA hB
  | false =>
   show _ = some (V.tup [iV (match D6 2 n f,ieq (D6 2 n f).1 0 with | r,false=>r | _,true=>Fi n f).1,iV (match D6 2 n f,ieq (D6 2 n f).1 0 with | r,false=>r | _,true=>Fi n f).2],[])
   cases c1:ieq (D6 2 n f).1 0 with
   | false=>exact Af1 _ n f hA hB hF c1
   | true =>
    show _ = some (V.tup [iV (Fi n f).1,iV (Fi n f).2],[])
    unfold Fi
    cases c3:ilt (Im n f) 2 with
    | true=>exact Afz _ n f hA hB hF c1 hs c3
    | false =>
     cases c4:ilt (JC n f) 2 with
     | true=>exact Af0 _ n f hA hB hF c1 hs c3 c4
     | false =>
      show _ = some (V.tup [iV (JD n f).1,iV (JD n f).2],[])
      unfold JD
      cases c5:crB n (A0 (λk=>Aw (f k)) n) (λi=>isW (f i)) 2 with
      | true =>
       rw [show crR n (A0 (λk=>Aw (f k)) n) (λi=>isW (f i)) 2 = (crI n (A0 (λk=>Aw (f k)) n) (λi=>isW (f i)) 2,true) from Prod.ext rfl c5]
       exact Afw _ n f hA hB hF c1 hs c3 c4 hk (Nat.beq_refl n) (D2 _ n hn) c5
      | false =>
       rw [show crR n (A0 (λk=>Aw (f k)) n) (λi=>isW (f i)) 2 = (crI n (A0 (λk=>Aw (f k)) n) (λi=>isW (f i)) 2,false) from Prod.ext rfl c5]
       cases c6:crB n (A0 (λk=>Ax (f k)) n) (λ_=>true) 12 with
       | true =>
        rw [show crR n (A0 (λk=>Ax (f k)) n) (λ_=>true) 12 = (crI n (A0 (λk=>Ax (f k)) n) (λ_=>true) 12,true) from Prod.ext rfl c6]
        exact Af2 _ n f hA hB hF c1 hs c3 c4 hk (Nat.beq_refl n) (D2 _ n hn) c5 (D2 _ n hn) c6
       | false =>
        rw [show crR n (A0 (λk=>Ax (f k)) n) (λ_=>true) 12 = (crI n (A0 (λk=>Ax (f k)) n) (λ_=>true) 12,false) from Prod.ext rfl c6]
        exact Afv _ n f hA hB hF c1 hs c3 c4 hk (Nat.beq_refl n) (D2 _ n hn) c5 (D2 _ n hn) c6
theorem p48:A7 Try.prog Gl 50 Yb:=by
 refine Av AL AN Try.func50 (by kernel_rfl) (by kernel_rfl) λvs v h' h=>?_
 unfold Yb at h
 split at h
 ·rename_i a u
  obtain ⟨n,f,ha,h1⟩:=Ci h
  obtain ⟨hn,hq⟩:=Ad h1
  have:=Ac hq
  simp only [Prod.mk.injEq] at this
  obtain ⟨rfl,rfl⟩:=this
  cases ca:ieq a 1 with
  | true =>
   have h9:=BB ca
   subst h9
   have hx:=AO Qr []
   exact ⟨_,AI Gl Fu [],_,V8 ha,rfl,hx.1,hx.2,AbH n f hn,A8.refl _⟩
  | false =>
   cases cb:ieq a 2 with
   | true =>
    have h9:=BB cb
    subst h9
    have hx:=AO Qr []
    exact ⟨_,AI Gl Fu [],_,V8 ha,rfl,hx.1,hx.2,AbI n f hn,A8.refl _⟩
   | false =>
    have hx:=AO Qr []
    refine ⟨_,AI Gl Fu [],_,V8 ha,rfl,hx.1,hx.2,?_,A8.refl _⟩
    unfold R6
    rw [ca,cb]
    exact AiZ _ a n f ca cb
 ·cases h
end Go.Proofs.Ytjhnfomefcngfaa.Ed
