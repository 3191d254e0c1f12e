/-
  Check, the program's and the document's: one answer. No conditions.
-/
import Derived.Test.YthlojajaenfidaaGreatDoorCyR
namespace Go.Proofs.YthlojajaenfidaaGreatDoor.Ed
open Go.Sy
open Int (ofNat)
abbrev U:V:=.und
noncomputable def CO:List (Nat × (List V->T (V × List Blk))):=(65,BE λe=>iV (AQ e)) :: (66,ap2 gI toE λa e=>out (SR a e)) :: (67,BE λe=>bV (Ax e)) :: (68,BE λe=>bV (Aw e)) :: (69,QV) :: (70,QU) :: (71,AbG) :: []
theorem Qv:A8 Tryz.prog Gl CO:=.cons p29 <| .cons p33 <| .cons p60 <| .cons p61 <| .cons p94 <| .cons p95 <| .cons p96 .nil
def Hy (n:Nat) (f:Nat->E6):Int:=ofNat (Aj (λk=>Ax (f k)) n)
def Ii (n:Nat) (f:Nat->E6):Int:=ofNat (Aj (λk=>Aw (f k)) n)
def Ij (n:Nat) (f:Nat->E6):Int × Int :=
 match crR n (Ay (λk=>Aw (f k)) n) (λi=>isW (f i)) 2 with
 | (i,true)=>(44,i)
 | (_,false)=>match crR n (Ay (λk=>Ax (f k)) n) (λ_=>true) 12 with
   | (i,true)=>(45,i)
   | (_,false)=>(0,0)
def E8 (n:Nat) (f:Nat->E6):Int × Int :=
 match ilt (Hy n f) 2,ilt (Ii n f) 2 with
 | true,_=>(42,0)
 | false,true=>(43,0)
 | false,false=>Ij n f
def Jg (a:Int) (n:Nat) (f:Nat->E6):Int × Int :=
 match ilt (ofNat n) 2,ilt 16 (ofNat n) with
 | true,_=>(40,0)
 | false,true=>(40,0)
 | false,false=>match Dg a n f,ieq (Dg a n f).1 0 with
  | r,false=>r
  | _,true=>E8 n f
def Pb (a:Int) (n:Nat) (f:Nat->E6):Int × Int :=
 match ieq a 1,ieq a 2 with
 | false,false=>(1,0)
 | _,_=>Jg a n f
def Y3:List V->T (V × List Blk)
 | [.val (.int .i64 a),v]=>apL v λn f=>.br (Be n) (out (.tup [iV (Pb a n f).1,iV (Pb a n f).2])) .fail
 | _=>.fail
theorem Xr {a:Int} {n:Nat} {f:Nat->E6} (h:ieq a 1 = true ∨ ieq a 2 = true):Pb a n f = Jg a n f:=by
 unfold Pb
 rcases h with h | h
 ·rw [h]
 ·rw [h]
  cases ieq a 1 <;> rfl
def Kq (n:Nat) (_:Nat->E6):Lp:=⟨(bmK 133 0 [0,1,4,5,6,7,8,9]),0,bmK 133 0 [1,4,5,6,7,8],0,n+1⟩
def EU (n:Nat) (f:Nat->E6) (x y:Int) (i:Nat) (j:Nat->V):St:=⟨(jsV 133 0 j [(0,iV 1),(1,.sl 6 n (λi=>eV (f i))),(4,iV 0),(5,iV 0),(6,nV n),(7,iV x),(8,iV y),(9,nV i)]),[]⟩
def BU (n:Nat) (f:Nat->E6) (x y:Int) (_:Nat):Ex × St:=(.ex 0,⟨(jsV 133 0 (λ_=>.und) [(1,.sl 6 n (λi=>eV (f i))),(4,iV 0),(5,iV 0),(6,nV n),(7,iV x),(8,iV y)]),[]⟩)
def V4 (n:Nat) (f:Nat->E6) (x y:Int) (i:Nat):Ex × St:=(.rt,⟨(jsV 133 0 (λ_=>.und) [(1,.sl 6 n (λi=>eV (f i))),(4,iV 30),(5,nV i),(6,nV n),(7,iV x),(8,iV y)]),[]⟩)
def V3 (n:Nat) (f:Nat->E6) (x y:Int) (i:Nat):Ex × St:=(.rt,⟨(jsV 133 0 (λ_=>.und) [(1,.sl 6 n (λi=>eV (f i))),(4,iV 5),(5,nV i),(6,nV n),(7,iV x),(8,iV y)]),[]⟩)
noncomputable def Cv (L:LT):St->T (Ex × St):=λst=>AD tab ⟨Ak CO,L,Gl⟩ (As Tryz.f47 0) 0 st
section
variable (L:LT) (n:Nat) (f:Nat->E6) (x y:Int) (i:Nat)  (j:Nat->V)
include L n f x y i j
theorem AhQ (h0:ilt (ofNat i) (ofNat n) = false):Ag (Cv L) (Kq n f) (EU n f x y i j) = some ((.ex 0),⟨(jsV 133 0 (λ_=>.und) [(1,(.sl 6 n (λi=>(eV (f i))))),(4,(iV 0)),(5,(iV 0)),(6,(nV n)),(7,(iV x)),(8,(iV y))]),[]⟩):=by
 exact Aa (ks:=[kn h0]) (by kernel_rfl)
theorem AhP (h0:ilt (ofNat i) (ofNat n) = true) (h1:Al (ile 0 (ofNat i)) (ilt (ofNat i) (ofNat n)) = true) (h2:ieq (AQ (f i)) 0 = false):Ag (Cv L) (Kq n f) (EU n f x y i j) = some (.rt,⟨(jsV 133 0 (λ_=>.und) [(1,(.sl 6 n (λi=>(eV (f i))))),(4,(iV 30)),(5,(nV i)),(6,(nV n)),(7,(iV x)),(8,(iV y))]),[]⟩):=by
 exact Aa (ks:=[kn h0,kn h1,kN (kn h2)]) (by kernel_rfl)
theorem AhO (h0:ilt (ofNat i) (ofNat n) = true) (h1:Al (ile 0 (ofNat i)) (ilt (ofNat i) (ofNat n)) = true) (h2:ieq (AQ (f i)) 0 = true) (h3:Hj 1 (f i) = false):Ag (Cv L) (Kq n f) (EU n f x y i j) = some (.rt,⟨(jsV 133 0 (λ_=>.und) [(1,(.sl 6 n (λi=>(eV (f i))))),(4,(iV 5)),(5,(nV i)),(6,(nV n)),(7,(iV x)),(8,(iV y))]),[]⟩):=by
 exact Aa (ks:=[kn h0,kn h1,kN (kn h2),kn h1,kN (kn h3)]) (by kernel_rfl)
theorem AcP (h0:ilt (ofNat i) (ofNat n) = true) (h1:Al (ile 0 (ofNat i)) (ilt (ofNat i) (ofNat n)) = true) (h2:ieq (AQ (f i)) 0 = true) (h3:Hj 1 (f i) = true) (h4:Ax (f i) = false) (h5:Aw (f i) = false):Ag (Cv L) (Kq n f) (EU n f x y i j) = some (.nm,⟨(jsV 133 0 (λ_=>.und) [(0,(iV 1)),(1,(.sl 6 n (λi=>(eV (f i))))),(4,(iV 0)),(5,(iV 0)),(6,(nV n)),(7,(iV x)),(8,(iV y)),(9,(iV (wr .i64 (Af (ofNat i) 1))))]),[]⟩):=by
 exact Aa (ks:=[kn h0,kn h1,kN (kn h2),kn h1,kN (kn h3),kn h1,kn h4,kn h1,kn h5]) (by kernel_rfl)
theorem AcQ (h0:ilt (ofNat i) (ofNat n) = true) (h1:Al (ile 0 (ofNat i)) (ilt (ofNat i) (ofNat n)) = true) (h2:ieq (AQ (f i)) 0 = true) (h3:Hj 1 (f i) = true) (h4:Ax (f i) = false) (h5:Aw (f i) = true):Ag (Cv L) (Kq n f) (EU n f x y i j) = some (.nm,⟨(jsV 133 0 (λ_=>.und) [(0,(iV 1)),(1,(.sl 6 n (λi=>(eV (f i))))),(4,(iV 0)),(5,(iV 0)),(6,(nV n)),(7,(iV x)),(8,(iV (wr .i64 (Af y 1)))),(9,(iV (wr .i64 (Af (ofNat i) 1))))]),[]⟩):=by
 exact Aa (ks:=[kn h0,kn h1,kN (kn h2),kn h1,kN (kn h3),kn h1,kn h4,kn h1,kn h5]) (by kernel_rfl)
theorem AcN (h0:ilt (ofNat i) (ofNat n) = true) (h1:Al (ile 0 (ofNat i)) (ilt (ofNat i) (ofNat n)) = true) (h2:ieq (AQ (f i)) 0 = true) (h3:Hj 1 (f i) = true) (h4:Ax (f i) = true) (h5:Aw (f i) = false):Ag (Cv L) (Kq n f) (EU n f x y i j) = some (.nm,⟨(jsV 133 0 (λ_=>.und) [(0,(iV 1)),(1,(.sl 6 n (λi=>(eV (f i))))),(4,(iV 0)),(5,(iV 0)),(6,(nV n)),(7,(iV (wr .i64 (Af x 1)))),(8,(iV y)),(9,(iV (wr .i64 (Af (ofNat i) 1))))]),[]⟩):=by
 exact Aa (ks:=[kn h0,kn h1,kN (kn h2),kn h1,kN (kn h3),kn h1,kn h4,kn h1,kn h5]) (by kernel_rfl)
theorem AcO (h0:ilt (ofNat i) (ofNat n) = true) (h1:Al (ile 0 (ofNat i)) (ilt (ofNat i) (ofNat n)) = true) (h2:ieq (AQ (f i)) 0 = true) (h3:Hj 1 (f i) = true) (h4:Ax (f i) = true) (h5:Aw (f i) = true):Ag (Cv L) (Kq n f) (EU n f x y i j) = some (.nm,⟨(jsV 133 0 (λ_=>.und) [(0,(iV 1)),(1,(.sl 6 n (λi=>(eV (f i))))),(4,(iV 0)),(5,(iV 0)),(6,(nV n)),(7,(iV (wr .i64 (Af x 1)))),(8,(iV (wr .i64 (Af y 1)))),(9,(iV (wr .i64 (Af (ofNat i) 1))))]),[]⟩):=by
 exact Aa (ks:=[kn h0,kn h1,kN (kn h2),kn h1,kN (kn h3),kn h1,kn h4,kn h1,kn h5]) (by kernel_rfl)
end
def M4 (n:Nat) (f:Nat->E6) :Nat->V:=lkV A7 [(17,(iV 1)),(18,(bV (AG (ieq 1 1)))),(19,(bV (AG (ieq 1 1)))),(22,(bV false)),(23,(.sl 6 n (λi=>eV (f i)))),(24,(nV n)),(25,(nV n)),(26,(bV (ilt (ofNat n) 2))),(27,(bV (ilt (ofNat n) 2))),(28,(nV n)),(29,(bV (ilt 16 (ofNat n)))),(30,(bV (ilt 16 (ofNat n))))]
def Ku (n:Nat) (_:Nat->E6):Lp:=⟨(bmK 133 0 [1,4,5,6,7,8,12]),0,bmK 133 0 [1,4,5,6,7,8],0,n+1⟩
def El (n:Nat) (f:Nat->E6) (x y:Int) (i:Nat) (j:Nat->V):St:=⟨(jsV 133 0 j [(1,.sl 6 n (λi=>eV (f i))),(4,iV 0),(5,iV 0),(6,nV n),(7,iV x),(8,iV y),(12,nV i)]),[]⟩
def B3 (n:Nat) (f:Nat->E6) (x y:Int) (_:Nat):Ex × St:=(.ex 2,⟨(jsV 133 0 (λ_=>.und) [(1,.sl 6 n (λi=>eV (f i))),(4,iV 0),(5,iV 0),(6,nV n),(7,iV x),(8,iV y)]),[]⟩)
def KK (n:Nat) (f:Nat->E6) (x y:Int) (i:Nat):Ex × St:=(.rt,⟨(jsV 133 0 (λ_=>.und) [(1,.sl 6 n (λi=>eV (f i))),(4,iV 41),(5,nV i),(6,nV n),(7,iV x),(8,iV y)]),[]⟩)
noncomputable def CL (L:LT):St->T (Ex × St):=λst=>AD tab ⟨Ak CO,L,Gl⟩ (As Tryz.f47 2) 2 st
section
variable (L:LT) (n:Nat) (f:Nat->E6) (x y:Int) (i:Nat)  (j:Nat->V)
include L n f x y i j
theorem AhJ (h0:ilt (ofNat i) (ofNat n) = false):Ag (CL L) (Ku n f) (El n f x y i j) = some ((.ex 2),⟨(jsV 133 0 (λ_=>.und) [(1,(.sl 6 n (λi=>(eV (f i))))),(4,(iV 0)),(5,(iV 0)),(6,(nV n)),(7,(iV x)),(8,(iV y))]),[]⟩):=by
 exact Aa (ks:=[kn h0]) (by kernel_rfl)
theorem AhI (h0:ilt (ofNat i) (ofNat n) = true) (h1:Al (ile 0 (ofNat i)) (ilt (ofNat i) (ofNat n)) = true) (h2:ieq (ofNat n) 0 = false) (h3:Al (ile 0 (Ae (wr .i64 (Af (ofNat i) 1)) (ofNat n))) (ilt (Ae (wr .i64 (Af (ofNat i) 1)) (ofNat n)) (ofNat n)) = true) (h4:ieq ((f i)).dst ((f (toN (Ae (wr .i64 (Af (ofNat i) 1)) (ofNat n))))).src = false):Ag (CL L) (Ku n f) (El n f x y i j) = some (.rt,⟨(jsV 133 0 (λ_=>.und) [(1,(.sl 6 n (λi=>(eV (f i))))),(4,(iV 41)),(5,(nV i)),(6,(nV n)),(7,(iV x)),(8,(iV y))]),[]⟩):=by
 exact Aa (ks:=[kn h0,kn h1,kn h2,kn h3,kN (kn h4)]) (by kernel_rfl)
theorem AhH (h0:ilt (ofNat i) (ofNat n) = true) (h1:Al (ile 0 (ofNat i)) (ilt (ofNat i) (ofNat n)) = true) (h2:ieq (ofNat n) 0 = false) (h3:Al (ile 0 (Ae (wr .i64 (Af (ofNat i) 1)) (ofNat n))) (ilt (Ae (wr .i64 (Af (ofNat i) 1)) (ofNat n)) (ofNat n)) = true) (h4:ieq ((f i)).dst ((f (toN (Ae (wr .i64 (Af (ofNat i) 1)) (ofNat n))))).src = true):Ag (CL L) (Ku n f) (El n f x y i j) = some (.nm,⟨(jsV 133 0 (λ_=>.und) [(1,(.sl 6 n (λi=>(eV (f i))))),(4,(iV 0)),(5,(iV 0)),(6,(nV n)),(7,(iV x)),(8,(iV y)),(12,(iV (wr .i64 (Af (ofNat i) 1))))]),[]⟩):=by
 exact Aa (ks:=[kn h0,kn h1,kn h2,kn h3,kN (kn h4)]) (by kernel_rfl)
end
def IK (_:Nat) (_:Nat->E6) (_ _:Int) (_:Nat):Nat->V:=lkV A7 [(0,.und),(2,.und),(3,.und),(9,.und),(10,.und),(11,.und),(13,.und),(14,.und),(15,.und),(16,.und),(17,.und),(18,.und),(19,.und),(20,.und),(21,.und),(22,.und),(23,.und),(24,.und),(25,.und),(26,.und),(27,.und),(28,.und),(29,.und),(30,.und),(31,.und),(32,.und),(33,.und),(34,.und),(35,.und),(36,.und),(37,.und),(38,.und),(39,.und),(40,.und),(41,.und),(42,.und),(43,.und),(44,.und),(45,.und),(46,.und),(47,.und),(48,.und),(49,.und),(50,.und),(51,.und),(52,.und),(53,.und),(54,.und),(55,.und),(56,.und),(57,.und),(58,.und),(59,.und),(60,.und),(61,.und),(62,.und),(63,.und),(64,.und),(65,.und),(66,.und),(67,.und),(68,.und),(69,.und),(70,.und),(71,.und),(72,.und),(73,.und),(74,.und),(75,.und),(76,.und),(77,.und),(78,.und),(79,.und),(80,.und),(81,.und),(82,.und),(83,.und),(84,.und),(85,.und),(86,.und),(87,.und),(88,.und),(89,.und),(90,.und),(91,.und),(92,.und),(93,.und),(94,.und),(95,.und),(96,.und),(97,.und),(98,.und),(99,.und),(100,.und),(101,.und),(102,.und),(103,.und),(104,.und),(105,.und),(106,.und),(107,.und),(108,.und),(109,.und),(110,.und),(111,.und),(112,.und),(113,.und),(114,.und),(115,.und),(116,.und),(117,.und),(118,.und),(119,.und),(120,.und),(121,.und),(122,.und),(123,.und),(124,.und),(125,.und),(126,.und),(127,.und),(128,.und),(129,.und),(130,.und),(131,.und),(132,.und)]
def IH (n:Nat) (_:Nat->E6):Lp:=⟨(bmK 133 0 [1,4,5,6,13,14,15]),2,bmK 133 0 [1,4,5,6,13],2,n+1⟩
def FD (n:Nat) (f:Nat->E6) (u v:Nat->Int) (i:Nat) (j:Nat->V):St:=⟨(jsV 133 0 j [(1,.sl 6 n (λi=>eV (f i))),(4,iV 0),(5,iV 0),(6,nV n),(13,.ref 0),(14,.ref 1),(15,nV i)]),[.row 3 1 n (λk=>iV (u k)),.row 3 1 n (λk=>iV (v k))]⟩
def CV (n:Nat) (f:Nat->E6) (u v:Nat->Int) (_:Nat):Ex × St:=(.ex 4,⟨(jsV 133 0 (λ_=>.und) [(1,.sl 6 n (λi=>eV (f i))),(4,iV 0),(5,iV 0),(6,nV n),(13,.ref 0)]),[.row 3 1 n (λk=>iV (u k)),.row 3 1 n (λk=>iV (v k))]⟩)
def Ig (n:Nat) (f:Nat->E6) (u v:Nat->Int) (i:Nat):Ex × St:=(.rt,⟨(jsV 133 0 (λ_=>.und) [(1,.sl 6 n (λi=>eV (f i))),(4,iV 44),(5,nV i),(6,nV n),(13,.ref 0)]),[.row 3 1 n (λk=>iV (u k)),.row 3 1 n (λk=>iV (v k))]⟩)
noncomputable def DB (L:LT):St->T (Ex × St):=λst=>AD tab ⟨Ak CO,L,Gl⟩ (As Tryz.f47 4) 4 st
section
variable (L:LT) (n:Nat) (f:Nat->E6) (u v:Nat->Int) (i:Nat)  (j:Nat->V)
include L n f u v i j
theorem Ahg (h0:ilt (ofNat i) (ofNat n) = false):Ag (DB L) (IH n f) (FD n f u v i j) = some ((.ex 4),⟨(jsV 133 0 (λ_=>.und) [(1,(.sl 6 n (λi=>(eV (f i))))),(4,(iV 0)),(5,(iV 0)),(6,(nV n)),(13,(.ref 0))]),[(.row 3 1 n (λk=>(iV (u k)))),(.row 3 1 n (λk=>(iV (v k))))]⟩):=by
 exact Aa (ks:=[kn h0]) (by kernel_rfl)
theorem Ahj (h0:ilt (ofNat i) (ofNat n) = true) (h1:Al (ile 0 (ofNat i)) (ilt (ofNat i) (ofNat n)) = true) (h2:ieq ((f i)).src 2 = false):Ag (DB L) (IH n f) (FD n f u v i j) = some (.nm,⟨(jsV 133 0 (λ_=>.und) [(1,(.sl 6 n (λi=>(eV (f i))))),(4,(iV 0)),(5,(iV 0)),(6,(nV n)),(13,(.ref 0)),(14,(.ref 1)),(15,(iV (wr .i64 (Af (ofNat i) 1))))]),[(.row 3 1 n (λk=>(iV (u k)))),(.row 3 1 n (λk=>(iV (v k))))]⟩):=by
 exact Aa (ks:=[kn h0,kn h1,kn h2,kn h2,kn h2,kn h2,kn h2,kn h2,kn h2,kn h2,kn h2,kF]) (by kernel_rfl)
theorem Ahi (h0:ilt (ofNat i) (ofNat n) = true) (h1:Al (ile 0 (ofNat i)) (ilt (ofNat i) (ofNat n)) = true) (h2:ieq ((f i)).src 2 = true) (h15:nlt i n = true) (h3:AB n n = true) (h4:Ao n = true) (h5:ilt 2 (Gp n v (λi=>(bor (AG true) (isW (f i)))) (v i)) = false):Ag (DB L) (IH n f) (FD n f u v i j) = some (.nm,⟨(jsV 133 0 (λ_=>.und) [(1,(.sl 6 n (λi=>(eV (f i))))),(4,(iV 0)),(5,(iV 0)),(6,(nV n)),(13,(.ref 0)),(14,(.ref 1)),(15,(iV (wr .i64 (Af (ofNat i) 1))))]),[(.row 3 1 n (λk=>(iV (u k)))),(.row 3 1 n (λk=>(iV (v k))))]⟩):=by
 exact Aa (ks:=[kn h0,kn h1,kn h2,kn h2,kn h2,kn h2,kn h2,kn h1,kn h2,kn h15,kn h2,kL n,kL n,kn h3,kn h4,kn h2,kn h2,kn h5]) (by kernel_rfl)
theorem Ahh (h0:ilt (ofNat i) (ofNat n) = true) (h1:Al (ile 0 (ofNat i)) (ilt (ofNat i) (ofNat n)) = true) (h2:ieq ((f i)).src 2 = true) (h15:nlt i n = true) (h3:AB n n = true) (h4:Ao n = true) (h5:ilt 2 (Gp n v (λi=>(bor (AG true) (isW (f i)))) (v i)) = true):Ag (DB L) (IH n f) (FD n f u v i j) = some (.rt,⟨(jsV 133 0 (λ_=>.und) [(1,(.sl 6 n (λi=>(eV (f i))))),(4,(iV 44)),(5,(nV i)),(6,(nV n)),(13,(.ref 0))]),[(.row 3 1 n (λk=>(iV (u k)))),(.row 3 1 n (λk=>(iV (v k))))]⟩):=by
 exact Aa (ks:=[kn h0,kn h1,kn h2,kn h2,kn h2,kn h2,kn h2,kn h1,kn h2,kn h15,kn h2,kL n,kL n,kn h3,kn h4,kn h2,kn h2,kn h5]) (by kernel_rfl)
end
def Ru (n:Nat) (f:Nat->E6) (x y:Int) (_ _:Nat):Nat->V:=lkV A7 [(0,.und),(2,.und),(3,.und),(7,(iV x)),(8,(iV y)),(9,.und),(10,.und),(11,.und),(12,.und),(16,.und),(17,.und),(18,.und),(19,.und),(20,.und),(21,.und),(22,.und),(23,.und),(24,.und),(25,.und),(26,.und),(27,.und),(28,.und),(29,.und),(30,.und),(31,.und),(32,.und),(33,.und),(34,.und),(35,.und),(36,.und),(37,.und),(38,.und),(39,.und),(40,.und),(41,.und),(42,.und),(43,.und),(44,.und),(45,.und),(46,.und),(47,.und),(48,.und),(49,.und),(50,.und),(51,.und),(52,.und),(53,.und),(54,.und),(55,.und),(56,.und),(57,.und),(58,.und),(59,.und),(60,.und),(61,.und),(62,.und),(63,.und),(64,.und),(65,.und),(66,.und),(67,.und),(68,.und),(69,.und),(70,.und),(71,.und),(72,.und),(73,.und),(74,.und),(75,.und),(76,.und),(77,.und),(78,.und),(79,.und),(80,.und),(81,.und),(82,.und),(83,.und),(84,.und),(85,.und),(86,.und),(87,.und),(88,.und),(89,(iV x)),(90,(bV (ilt x 2))),(91,(iV y)),(92,(bV (ilt y 2))),(93,(.sl 6 n (λi=>eV (f i)))),(94,(.ref 0)),(95,(.sl 6 n (λi=>eV (f i)))),(96,(.ref 1)),(97,.und),(98,.und),(99,.und),(100,.und),(101,.und),(102,.und),(103,.und),(104,.und),(105,.und),(106,.und),(107,.und),(108,.und),(109,.und),(110,.und),(111,.und),(112,.und),(113,.und),(114,.und),(115,.und),(116,.und),(117,.und),(118,.und),(119,.und),(120,.und),(121,.und),(122,.und),(123,.und),(124,.und),(125,.und),(126,.und),(127,.und),(128,.und),(129,.und),(130,.und),(131,.und),(132,.und)]
def Ks (n:Nat) (_:Nat->E6):Lp:=⟨(bmK 133 0 [1,4,5,6,13,16]),2,bmK 133 0 [4,5],0,n+1⟩
def I2 (n:Nat) (f:Nat->E6) (u v:Nat->Int) (i:Nat) (j:Nat->V):St:=⟨(jsV 133 0 j [(1,.sl 6 n (λi=>eV (f i))),(4,iV 0),(5,iV 0),(6,nV n),(13,.ref 0),(16,nV i)]),[.row 3 1 n (λk=>iV (u k)),.row 3 1 n (λk=>iV (v k))]⟩
def GC (_:Nat) (_:Nat->E6) (_ _:Nat->Int) (_:Nat):Ex × St:=(.ex 6,⟨(jsV 133 0 (λ_=>.und) [(4,iV 0),(5,iV 0)]),[]⟩)
def GD (_:Nat) (_:Nat->E6) (_ _:Nat->Int) (i:Nat):Ex × St:=(.rt,⟨(jsV 133 0 (λ_=>.und) [(4,iV 45),(5,nV i)]),[]⟩)
noncomputable def Fq (L:LT):St->T (Ex × St):=λst=>AD tab ⟨Ak CO,L,Gl⟩ (As Tryz.f47 6) 6 st
section
variable (L:LT) (n:Nat) (f:Nat->E6) (u v:Nat->Int) (i:Nat)  (j:Nat->V)
include L n f u v i j
theorem AgN (h0:ilt (ofNat i) (ofNat n) = false):Ag (Fq L) (Ks n f) (I2 n f u v i j) = some ((.ex 6),⟨(jsV 133 0 (λ_=>.und) [(4,(iV 0)),(5,(iV 0))]),[]⟩):=by
 exact Aa (ks:=[kn h0]) (by kernel_rfl)
theorem AgP (h0:ilt (ofNat i) (ofNat n) = true) (h1:Al (ile 0 (ofNat i)) (ilt (ofNat i) (ofNat n)) = true) (h14:nlt i n = true) (h2:AB n n = true) (h3:Ao n = true) (h4:ilt 12 (Gp n u (λi=>(bor (AG false) (isW (f i)))) (u i)) = false):Ag (Fq L) (Ks n f) (I2 n f u v i j) = some (.nm,⟨(jsV 133 0 (λ_=>.und) [(1,(.sl 6 n (λi=>(eV (f i))))),(4,(iV 0)),(5,(iV 0)),(6,(nV n)),(13,(.ref 0)),(16,(iV (wr .i64 (Af (ofNat i) 1))))]),[(.row 3 1 n (λk=>(iV (u k)))),(.row 3 1 n (λk=>(iV (v k))))]⟩):=by
 exact Aa (ks:=[kn h0,kn h1,kn h14,kL n,kL n,kn h2,kn h3,kn h4]) (by kernel_rfl)
theorem AgO (h0:ilt (ofNat i) (ofNat n) = true) (h1:Al (ile 0 (ofNat i)) (ilt (ofNat i) (ofNat n)) = true) (h14:nlt i n = true) (h2:AB n n = true) (h3:Ao n = true) (h4:ilt 12 (Gp n u (λi=>(bor (AG false) (isW (f i)))) (u i)) = true):Ag (Fq L) (Ks n f) (I2 n f u v i j) = some (.rt,⟨(jsV 133 0 (λ_=>.und) [(4,(iV 45)),(5,(nV i))]),[]⟩):=by
 exact Aa (ks:=[kn h0,kn h1,kn h14,kL n,kL n,kn h2,kn h3,kn h4]) (by kernel_rfl)
end
def WN (_:Nat) (_:Nat->E6) (_ _:Int) (_ _:Nat) (_ _:Nat->Int) (_:Nat):Nat->V:=lkV A7 [(0,.und),(2,.und),(3,.und),(7,.und),(8,.und),(9,.und),(10,.und),(11,.und),(12,.und),(14,.und),(15,.und),(17,.und),(18,.und),(19,.und),(20,.und),(21,.und),(22,.und),(23,.und),(24,.und),(25,.und),(26,.und),(27,.und),(28,.und),(29,.und),(30,.und),(31,.und),(32,.und),(33,.und),(34,.und),(35,.und),(36,.und),(37,.und),(38,.und),(39,.und),(40,.und),(41,.und),(42,.und),(43,.und),(44,.und),(45,.und),(46,.und),(47,.und),(48,.und),(49,.und),(50,.und),(51,.und),(52,.und),(53,.und),(54,.und),(55,.und),(56,.und),(57,.und),(58,.und),(59,.und),(60,.und),(61,.und),(62,.und),(63,.und),(64,.und),(65,.und),(66,.und),(67,.und),(68,.und),(69,.und),(70,.und),(71,.und),(72,.und),(73,.und),(74,.und),(75,.und),(76,.und),(77,.und),(78,.und),(79,.und),(80,.und),(81,.und),(82,.und),(83,.und),(84,.und),(85,.und),(86,.und),(87,.und),(88,.und),(89,.und),(90,.und),(91,.und),(92,.und),(93,.und),(94,.und),(95,.und),(96,.und),(97,.und),(98,.und),(99,.und),(100,.und),(101,.und),(102,.und),(103,.und),(104,.und),(105,.und),(106,.und),(107,.und),(108,.und),(109,.und),(110,.und),(111,.und),(112,.und),(113,.und),(114,.und),(115,.und),(116,.und),(117,.und),(118,.und),(119,.und),(120,.und),(121,.und),(122,.und),(123,.und),(124,.und),(125,.und),(126,.und),(127,.und),(128,.und),(129,.und),(130,.und),(131,.und),(132,.und)]
section
variable (L:LT) (p0:PT) (n:Nat) (f:Nat->E6) (x y:Int) (i:Nat)
include L p0 n f x y i
theorem Afr (h0:ilt (ofNat n) 2 = false) (h1:ilt 16 (ofNat n) = false) (hp0:p0 (Cv (onP 0 p0 (V4 n f x y i) L)) (EU n f 0 0 0 (M4 n f )) = true):(Au (Ah tab ⟨Ak CO,(onP 0 p0 (V4 n f x y i) L),Gl⟩ Tryz.f47 [iV 1,A5 n f] [])).sem = some ((.tup [(iV 30),(nV i)]),[]):=by
 exact Aa (ks:=[kN (kI 1),kN (kI 1),kN (kI 1),kF,kn h0,kn h0,kn h0,kn h1,kn hp0]) (by kernel_rfl)
theorem Afq (h0:ilt (ofNat n) 2 = false) (h1:ilt 16 (ofNat n) = false) (hp0:p0 (Cv (onP 0 p0 (V3 n f x y i) L)) (EU n f 0 0 0 (M4 n f )) = true):(Au (Ah tab ⟨Ak CO,(onP 0 p0 (V3 n f x y i) L),Gl⟩ Tryz.f47 [iV 1,A5 n f] [])).sem = some ((.tup [(iV 5),(nV i)]),[]):=by
 exact Aa (ks:=[kN (kI 1),kN (kI 1),kN (kI 1),kF,kn h0,kn h0,kn h0,kn h1,kn hp0]) (by kernel_rfl)
end
section
variable (L:LT) (p0:PT) (p2:PT) (n:Nat) (f:Nat->E6) (x y:Int) (i:Nat) (i2:Nat)
include L p0 p2 n f x y i i2
theorem Afp (h0:ilt (ofNat n) 2 = false) (h1:ilt 16 (ofNat n) = false) (hp0:p0 (Cv (onP 0 p0 (BU n f x y i) (onP 2 p2 (KK n f x y i2) L))) (EU n f 0 0 0 (M4 n f )) = true) (hp2:p2 (CL (onP 0 p0 (BU n f x y i) (onP 2 p2 (KK n f x y i2) L))) (El n f x y 0 (IK n f x y i)) = true):(Au (Ah tab ⟨Ak CO,(onP 0 p0 (BU n f x y i) (onP 2 p2 (KK n f x y i2) L)),Gl⟩ Tryz.f47 [iV 1,A5 n f] [])).sem = some ((.tup [(iV 41),(nV i2)]),[]):=by
 exact Aa (ks:=[kN (kI 1),kN (kI 1),kN (kI 1),kF,kn h0,kn h0,kn h0,kn h1,kn hp0,kn hp2]) (by kernel_rfl)
theorem Afo (h0:ilt (ofNat n) 2 = false) (h1:ilt 16 (ofNat n) = false) (h2:ilt x 2 = true) (hp0:p0 (Cv (onP 0 p0 (BU n f x y i) (onP 2 p2 (B3 n f x y i2) L))) (EU n f 0 0 0 (M4 n f )) = true) (hp2:p2 (CL (onP 0 p0 (BU n f x y i) (onP 2 p2 (B3 n f x y i2) L))) (El n f x y 0 (IK n f x y i)) = true):(Au (Ah tab ⟨Ak CO,(onP 0 p0 (BU n f x y i) (onP 2 p2 (B3 n f x y i2) L)),Gl⟩ Tryz.f47 [iV 1,A5 n f] [])).sem = some ((.tup [(iV 42),(iV 0)]),[]):=by
 exact Aa (ks:=[kN (kI 1),kN (kI 1),kN (kI 1),kF,kn h0,kn h0,kn h0,kn h1,kn hp0,kn hp2,kn h2]) (by kernel_rfl)
theorem Afl (h0:ilt (ofNat n) 2 = false) (h1:ilt 16 (ofNat n) = false) (h2:ilt x 2 = false) (h3:ilt y 2 = true) (hp0:p0 (Cv (onP 0 p0 (BU n f x y i) (onP 2 p2 (B3 n f x y i2) L))) (EU n f 0 0 0 (M4 n f )) = true) (hp2:p2 (CL (onP 0 p0 (BU n f x y i) (onP 2 p2 (B3 n f x y i2) L))) (El n f x y 0 (IK n f x y i)) = true):(Au (Ah tab ⟨Ak CO,(onP 0 p0 (BU n f x y i) (onP 2 p2 (B3 n f x y i2) L)),Gl⟩ Tryz.f47 [iV 1,A5 n f] [])).sem = some ((.tup [(iV 43),(iV 0)]),[]):=by
 exact Aa (ks:=[kN (kI 1),kN (kI 1),kN (kI 1),kF,kn h0,kn h0,kn h0,kn h1,kn hp0,kn hp2,kn h2,kn h3]) (by kernel_rfl)
end
abbrev pO (n:Nat) (f:Nat->E6):Nat->Int:=λk=>Ay (λk=>Ax (f k)) n k
abbrev pM (n:Nat) (f:Nat->E6):Nat->Int:=λk=>Ay (λk=>Aw (f k)) n k
theorem Afk (L:LT) (p0:PT) (p2:PT) (p4:PT) (n:Nat) (f:Nat->E6) (x y:Int) (i:Nat) (i2 i4:Nat) (h0:ilt (ofNat n) 2 = false) (h1:ilt 16 (ofNat n) = false) (h2:ilt x 2 = false) (h3:ilt y 2 = false) (h4:Be n = true) (hp0:p0 (Cv (onP 0 p0 (BU n f x y i) (onP 2 p2 (B3 n f x y i2) (onP 4 p4 (Ig n f (pO n f) (pM n f) i4) L)))) (EU n f 0 0 0 (M4 n f )) = true) (hp2:p2 (CL (onP 0 p0 (BU n f x y i) (onP 2 p2 (B3 n f x y i2) (onP 4 p4 (Ig n f (pO n f) (pM n f) i4) L)))) (El n f x y 0 (IK n f x y i)) = true) (hp4:p4 (DB (onP 0 p0 (BU n f x y i) (onP 2 p2 (B3 n f x y i2) (onP 4 p4 (Ig n f (pO n f) (pM n f) i4) L)))) (FD n f (pO n f) (pM n f) 0 (Ru n f x y i i2)) = true):(Au (Ah tab ⟨Ak CO,(onP 0 p0 (BU n f x y i) (onP 2 p2 (B3 n f x y i2) (onP 4 p4 (Ig n f (pO n f) (pM n f) i4) L))),Gl⟩ Tryz.f47 [iV 1,A5 n f] [])).sem = some ((.tup [(iV 44),(nV i4)]),[]):=by
 exact Aa (ks:=[kN (kI 1),kN (kI 1),kN (kI 1),kF,kn h0,kn h0,kn h0,kn h1,kn hp0,kn hp2,kn h2,kn h3,kL n,kn h4,kL n,kn h4,kn hp4]) (by kernel_rfl)
section
variable (L:LT) (p0:PT) (p2:PT) (p4:PT) (p6:PT) (n:Nat) (f:Nat->E6) (x y:Int) (i:Nat) (i2 i4 i6:Nat)
include L p0 p2 p4 p6 n f x y i i2 i4 i6
theorem Afs (h0:ilt (ofNat n) 2 = false) (h1:ilt 16 (ofNat n) = false) (h2:ilt x 2 = false) (h3:ilt y 2 = false) (h4:Be n = true) (hp0:p0 (Cv (onP 0 p0 (BU n f x y i) (onP 2 p2 (B3 n f x y i2) (onP 4 p4 (CV n f (pO n f) (pM n f) i4) (onP 6 p6 (GD n f (pO n f) (pM n f) i6) L))))) (EU n f 0 0 0 (M4 n f )) = true) (hp2:p2 (CL (onP 0 p0 (BU n f x y i) (onP 2 p2 (B3 n f x y i2) (onP 4 p4 (CV n f (pO n f) (pM n f) i4) (onP 6 p6 (GD n f (pO n f) (pM n f) i6) L))))) (El n f x y 0 (IK n f x y i)) = true) (hp4:p4 (DB (onP 0 p0 (BU n f x y i) (onP 2 p2 (B3 n f x y i2) (onP 4 p4 (CV n f (pO n f) (pM n f) i4) (onP 6 p6 (GD n f (pO n f) (pM n f) i6) L))))) (FD n f (pO n f) (pM n f) 0 (Ru n f x y i i2)) = true) (hp6:p6 (Fq (onP 0 p0 (BU n f x y i) (onP 2 p2 (B3 n f x y i2) (onP 4 p4 (CV n f (pO n f) (pM n f) i4) (onP 6 p6 (GD n f (pO n f) (pM n f) i6) L))))) (I2 n f (pO n f) (pM n f) 0 (WN n f x y i i2 (pO n f) (pM n f) i4)) = true):(Au (Ah tab ⟨Ak CO,(onP 0 p0 (BU n f x y i) (onP 2 p2 (B3 n f x y i2) (onP 4 p4 (CV n f (pO n f) (pM n f) i4) (onP 6 p6 (GD n f (pO n f) (pM n f) i6) L)))),Gl⟩ Tryz.f47 [iV 1,A5 n f] [])).sem = some ((.tup [(iV 45),(nV i6)]),[]):=by
 exact Aa (ks:=[kN (kI 1),kN (kI 1),kN (kI 1),kF,kn h0,kn h0,kn h0,kn h1,kn hp0,kn hp2,kn h2,kn h3,kL n,kn h4,kL n,kn h4,kn hp4,kn hp6]) (by kernel_rfl)
theorem Afj (h0:ilt (ofNat n) 2 = false) (h1:ilt 16 (ofNat n) = false) (h2:ilt x 2 = false) (h3:ilt y 2 = false) (h4:Be n = true) (hp0:p0 (Cv (onP 0 p0 (BU n f x y i) (onP 2 p2 (B3 n f x y i2) (onP 4 p4 (CV n f (pO n f) (pM n f) i4) (onP 6 p6 (GC n f (pO n f) (pM n f) i6) L))))) (EU n f 0 0 0 (M4 n f )) = true) (hp2:p2 (CL (onP 0 p0 (BU n f x y i) (onP 2 p2 (B3 n f x y i2) (onP 4 p4 (CV n f (pO n f) (pM n f) i4) (onP 6 p6 (GC n f (pO n f) (pM n f) i6) L))))) (El n f x y 0 (IK n f x y i)) = true) (hp4:p4 (DB (onP 0 p0 (BU n f x y i) (onP 2 p2 (B3 n f x y i2) (onP 4 p4 (CV n f (pO n f) (pM n f) i4) (onP 6 p6 (GC n f (pO n f) (pM n f) i6) L))))) (FD n f (pO n f) (pM n f) 0 (Ru n f x y i i2)) = true) (hp6:p6 (Fq (onP 0 p0 (BU n f x y i) (onP 2 p2 (B3 n f x y i2) (onP 4 p4 (CV n f (pO n f) (pM n f) i4) (onP 6 p6 (GC n f (pO n f) (pM n f) i6) L))))) (I2 n f (pO n f) (pM n f) 0 (WN n f x y i i2 (pO n f) (pM n f) i4)) = true):(Au (Ah tab ⟨Ak CO,(onP 0 p0 (BU n f x y i) (onP 2 p2 (B3 n f x y i2) (onP 4 p4 (CV n f (pO n f) (pM n f) i4) (onP 6 p6 (GC n f (pO n f) (pM n f) i6) L)))),Gl⟩ Tryz.f47 [iV 1,A5 n f] [])).sem = some ((.tup [(iV 0),(iV 0)]),[]):=by
 exact Aa (ks:=[kN (kI 1),kN (kI 1),kN (kI 1),kF,kn h0,kn h0,kn h0,kn h1,kn hp0,kn hp2,kn h2,kn h3,kL n,kn h4,kL n,kn h4,kn hp4,kn hp6]) (by kernel_rfl)
end
section
variable (L:LT) (n:Nat) (f:Nat->E6)
include L n f
theorem Afn (h0:ilt (ofNat n) 2 = true):(Au (Ah tab ⟨Ak CO,L,Gl⟩ Tryz.f47 [iV 1,A5 n f] [])).sem = some ((.tup [(iV 40),(iV 0)]),[]):=by
 exact Aa (ks:=[kN (kI 1),kN (kI 1),kN (kI 1),kF,kn h0,kn h0,kn h0,kT]) (by kernel_rfl)
theorem Afm (h0:ilt (ofNat n) 2 = false) (h1:ilt 16 (ofNat n) = true):(Au (Ah tab ⟨Ak CO,L,Gl⟩ Tryz.f47 [iV 1,A5 n f] [])).sem = some ((.tup [(iV 40),(iV 0)]),[]):=by
 exact Aa (ks:=[kN (kI 1),kN (kI 1),kN (kI 1),kF,kn h0,kn h0,kn h0,kn h1]) (by kernel_rfl)
end
theorem N5 (L:LT) (n:Nat) (f:Nat->E6) (hn:n <= 4611686018427387904):∀ (d i:Nat) (j:Nat->V) (q:Nat),n = i+d->d < q ->
  (AA (Cv L) (Kq n f) q (EU n f (ofNat (Aj (λk=>Ax (f k)) i)) (ofNat (Aj (λk=>Aw (f k)) i)) i j)).sem = some (match Ba (Ct 1 f) d i with
   | none=>BU n f (ofNat (Aj (λk=>Ax (f k)) n)) (ofNat (Aj (λk=>Aw (f k)) n)) n
   | some t=>match ieq (DL 1 (f t)) 0 with
    | false=>V4 n f (ofNat (Aj (λk=>Ax (f k)) t)) (ofNat (Aj (λk=>Aw (f k)) t)) t
    | true=>V3 n f (ofNat (Aj (λk=>Ax (f k)) t)) (ofNat (Aj (λk=>Aw (f k)) t)) t)
 | 0,i,j,q+1,h,_=>by
  have:n = i:=by omega
  subst this
  exact Ab (AhQ L n f (ofNat (Aj (λk=>Ax (f k)) n)) (ofNat (Aj (λk=>Aw (f k)) n)) n j (A9 (Nat.le_refl _)))
 | d+1,i,j,q+1,h,h2=>by
  have hl:i < n:=by omega
  have ho:=AV (λk=>Ax (f k)) i
  have hm:=AV (λk=>Aw (f k)) i
  cases c1:ieq (AQ (f i)) 0 with
  | false =>
   have c1':ieq (DL 1 (f i)) 0 = false:=c1
   rw [BQ (show Ct 1 f i = true by rw [Ct,c1']; rfl)]
   simp only [c1']
   exact Ab (AhP L n f (ofNat (Aj (λk=>Ax (f k)) i)) (ofNat (Aj (λk=>Aw (f k)) i)) i j (ofNat_lt hl) (Ap hl) c1)
  | true =>
   have c1':ieq (DL 1 (f i)) 0 = true:=c1
   cases c2:Hj 1 (f i) with
   | false =>
    rw [BQ (show Ct 1 f i = true by rw [Ct,c1',c2]; rfl)]
    simp only [c1']
    exact Ab (AhO L n f (ofNat (Aj (λk=>Ax (f k)) i)) (ofNat (Aj (λk=>Aw (f k)) i)) i j (ofNat_lt hl) (Ap hl) c1 c2)
   | true =>
    cases c3:Ax (f i) with
    | false =>
     cases c4:Aw (f i) with
     | false =>
      rw [By (show Ct 1 f i = false by rw [Ct,show ieq (DL 1 (f i)) 0 = true from c1,c2]; rfl),Ab (AcP L n f (ofNat (Aj (λk=>Ax (f k)) i)) (ofNat (Aj (λk=>Aw (f k)) i)) i j (ofNat_lt hl) (Ap hl) c1 c2 c3 c4),Aq,An hl hn,<- B5 (p:=(λk=>Ax (f k))) c3,<- B5 (p:=(λk=>Aw (f k))) c4]
      exact N5 L n f hn d (i+1) (λ_=>.und) q (by omega) (by omega)
     | true =>
      rw [By (show Ct 1 f i = false by rw [Ct,show ieq (DL 1 (f i)) 0 = true from c1,c2]; rfl),Ab (AcQ L n f (ofNat (Aj (λk=>Ax (f k)) i)) (ofNat (Aj (λk=>Aw (f k)) i)) i j (ofNat_lt hl) (Ap hl) c1 c2 c3 c4),Aq,An hl hn,An (show Aj (λk=>Aw (f k)) i < n by omega) hn,<- B5 (p:=(λk=>Ax (f k))) c3,<- Bi (p:=(λk=>Aw (f k))) c4]
      exact N5 L n f hn d (i+1) (λ_=>.und) q (by omega) (by omega)
    | true =>
     cases c4:Aw (f i) with
     | false =>
      rw [By (show Ct 1 f i = false by rw [Ct,show ieq (DL 1 (f i)) 0 = true from c1,c2]; rfl),Ab (AcN L n f (ofNat (Aj (λk=>Ax (f k)) i)) (ofNat (Aj (λk=>Aw (f k)) i)) i j (ofNat_lt hl) (Ap hl) c1 c2 c3 c4),Aq,An hl hn,An (show Aj (λk=>Ax (f k)) i < n by omega) hn,<- Bi (p:=(λk=>Ax (f k))) c3,<- B5 (p:=(λk=>Aw (f k))) c4]
      exact N5 L n f hn d (i+1) (λ_=>.und) q (by omega) (by omega)
     | true =>
      rw [By (show Ct 1 f i = false by rw [Ct,show ieq (DL 1 (f i)) 0 = true from c1,c2]; rfl),Ab (AcO L n f (ofNat (Aj (λk=>Ax (f k)) i)) (ofNat (Aj (λk=>Aw (f k)) i)) i j (ofNat_lt hl) (Ap hl) c1 c2 c3 c4),Aq,An hl hn,An (show Aj (λk=>Ax (f k)) i < n by omega) hn,An (show Aj (λk=>Aw (f k)) i < n by omega) hn,<- Bi (p:=(λk=>Ax (f k))) c3,<- Bi (p:=(λk=>Aw (f k))) c4]
      exact N5 L n f hn d (i+1) (λ_=>.und) q (by omega) (by omega)
theorem Wt (L:LT) (n:Nat) (f:Nat->E6) (x y:Int) (hn:n <= 4611686018427387904):∀ (d i:Nat) (j:Nat->V) (q:Nat),n = i+d->d < q ->
  (AA (CL L) (Ku n f) q (El n f x y i j)).sem = some (match Ba (ES n f) d i with
   | none=>B3 n f x y 0
   | some t=>KK n f x y t)
 | 0,i,j,q+1,h,_=>by
  have:n = i:=by omega
  subst this
  exact Ab (AhJ L n f x y n j (A9 (Nat.le_refl _)))
 | d+1,i,j,q+1,h,h2=>by
  have hl:i < n:=by omega
  have e1:=NN hl hn
  have hb:Al (ile 0 (Ae (wr .i64 (Af (ofNat i) 1)) (ofNat n))) (ilt (Ae (wr .i64 (Af (ofNat i) 1)) (ofNat n)) (ofNat n)) = true:=by
   rw [e1]; exact Ap (Nat.mod_lt _ (by omega))
  have e2:toN (ofNat ((i+1) % n)) = (i+1) % n:=rfl
  cases c1:ieq (f i).dst (f ((i+1) % n)).src with
  | false =>
   rw [BQ (show ES n f i = true by rw [ES,c1]; rfl)]
   exact Ab (AhI L n f x y i j (ofNat_lt hl) (Ap hl) (XY hl) hb (by rw [e1,e2]; exact c1))
  | true =>
   rw [By (show ES n f i = false by rw [ES,c1]; rfl),Ab (AhH L n f x y i j (ofNat_lt hl) (Ap hl) (XY hl) hb (by rw [e1,e2]; exact c1)),Aq,An hl hn]
   exact Wt L n f x y hn d (i+1) (λ_=>.und) q (by omega) (by omega)
theorem QJ (L:LT) (n:Nat) (f:Nat->E6) (u v:Nat->Int) (hn:n <= 4611686018427387904):∀ (d i:Nat) (j:Nat->V) (q:Nat),n = i+d->d < q ->
  (AA (DB L) (IH n f) q (FD n f u v i j)).sem = some (match Ba (AH n v (λi=>isW (f i)) 2) d i with
   | none=>CV n f u v 0
   | some t=>Ig n f u v t)
 | 0,i,j,q+1,h,_=>by
  have:n = i:=by omega
  subst this
  exact Ab (Ahg L n f u v n j (A9 (Nat.le_refl _)))
 | d+1,i,j,q+1,h,h2=>by
  have hl:i < n:=by omega
  have hs:Ao n = true:=decide_eq_true hn
  cases c1:ieq (f i).src 2 with
  | false =>
   rw [By (show AH n v (λi=>isW (f i)) 2 i = false by rw [AH,isW,c1]; rfl),Ab (Ahj L n f u v i j (ofNat_lt hl) (Ap hl) c1),Aq,An hl hn]
   exact QJ L n f u v hn d (i+1) (λ_=>.und) q (by omega) (by omega)
  | true =>
   cases c2:ilt 2 (Gp n v (λi=>(bor (AG true) (isW (f i)))) (v i)) with
   | false =>
    rw [By (show AH n v (λi=>isW (f i)) 2 i = false by rw [AH,isW,c1]; exact c2),Ab (Ahi L n f u v i j (ofNat_lt hl) (Ap hl) c1 (show nlt i n = true by simpa [nlt] using hl) (Nat.beq_refl n) hs c2),Aq,An hl hn]
    exact QJ L n f u v hn d (i+1) (λ_=>.und) q (by omega) (by omega)
   | true =>
    rw [BQ (show AH n v (λi=>isW (f i)) 2 i = true by rw [AH,isW,c1]; exact c2)]
    exact Ab (Ahh L n f u v i j (ofNat_lt hl) (Ap hl) c1 (show nlt i n = true by simpa [nlt] using hl) (Nat.beq_refl n) hs c2)
theorem Wr (L:LT) (n:Nat) (f:Nat->E6) (u v:Nat->Int) (hn:n <= 4611686018427387904):∀ (d i:Nat) (j:Nat->V) (q:Nat),n = i+d->d < q ->
  (AA (Fq L) (Ks n f) q (I2 n f u v i j)).sem = some (match Ba (AH n u (λ_=>true) 12) d i with
   | none=>GC n f u v 0
   | some t=>GD n f u v t)
 | 0,i,j,q+1,h,_=>by
  have:n = i:=by omega
  subst this
  exact Ab (AgN L n f u v n j (A9 (Nat.le_refl _)))
 | d+1,i,j,q+1,h,h2=>by
  have hl:i < n:=by omega
  have hs:Ao n = true:=decide_eq_true hn
  cases c2:ilt 12 (Gp n u (λi=>(bor (AG false) (isW (f i)))) (u i)) with
  | false =>
   rw [By (show AH n u (λ_=>true) 12 i = false from c2),Ab (AgP L n f u v i j (ofNat_lt hl) (Ap hl) (show nlt i n = true by simpa [nlt] using hl) (Nat.beq_refl n) hs c2),Aq,An hl hn]
   exact Wr L n f u v hn d (i+1) (λ_=>.und) q (by omega) (by omega)
  | true =>
   rw [BQ (show AH n u (λ_=>true) 12 i = true from c2)]
   exact Ab (AgO L n f u v i j (ofNat_lt hl) (Ap hl) (show nlt i n = true by simpa [nlt] using hl) (Nat.beq_refl n) hs c2)
def Rg (n:Nat) (f:Nat->E6):List (Nat × Lp):=[(0,Kq n f),(2,Ku n f),(4,IH n f),(6,Ks n f)]
theorem Acl (n:Nat) (f:Nat->E6) (hF:Be n = true) :
  (Au (Ah tab (AN Gl CO (Rg n f)) Tryz.f47 [iV 1,A5 n f] [])).sem = some (.tup [iV (Jg 1 n f).1,iV (Jg 1 n f).2],[]):=by
 have hL:=AF (Rg n f)
 have hn:=CE (EP hF)
 unfold Jg
 cases hA:ilt (ofNat n) 2 with
 | true=>exact Afn _ n f hA
 | false =>
  cases hB:ilt 16 (ofNat n) with
  | true=>exact Afm _ n f hA hB
  | false =>
   have h0:=λL j=>N5 L n f hn n 0 j (n+1) (by omega) (by omega)
   have h2:=λL j=>Wt L n f (ofNat (Aj (λk=>Ax (f k)) n)) (ofNat (Aj (λk=>Aw (f k)) n)) hn n 0 j (n+1) (by omega) (by omega)
   have h4:=λL j=>QJ L n f (pO n f) (pM n f) hn n 0 j (n+1) (by omega) (by omega)
   have h6:=λL j=>Wr L n f (pO n f) (pM n f) hn n 0 j (n+1) (by omega) (by omega)
   show _ = some (V.tup [iV (match Dg 1 n f,ieq (Dg 1 n f).1 0 with | r,false=>r | _,true=>E8 n f).1,iV (match Dg 1 n f,ieq (Dg 1 n f).1 0 with | r,false=>r | _,true=>E8 n f).2],[])
   unfold Dg
   cases c1:Ba (Ct 1 f) n 0 with
   | some t =>
    rw [c1] at h0
    cases c2:ieq (DL 1 (f t)) 0 with
    | false =>
     simp only [c2] at h0 ⊢
     exact A1 (Ar hL hL) _ (Afr _ _ n f (ofNat (Aj (λk=>Ax (f k)) t)) (ofNat (Aj (λk=>Aw (f k)) t)) t hA hB (Ai (h0 _ _)))
    | true =>
     simp only [c2] at h0 ⊢
     exact A1 (Ar hL hL) _ (Afq _ _ n f (ofNat (Aj (λk=>Ax (f k)) t)) (ofNat (Aj (λk=>Aw (f k)) t)) t hA hB (Ai (h0 _ _)))
   | none =>
    rw [c1] at h0
    cases c2:Ba (ES n f) n 0 with
    | some t =>
     rw [c2] at h2
     exact A1 (Ar (Ar hL hL) hL) _ (Afp _ _ _ n f (ofNat (Aj (λk=>Ax (f k)) n)) (ofNat (Aj (λk=>Aw (f k)) n)) n t hA hB (Ai (h0 _ _)) (Ai (h2 _ _)))
    | none =>
     rw [c2] at h2
     show _ = some (V.tup [iV (E8 n f).1,iV (E8 n f).2],[])
     unfold E8
     cases c3:ilt (Hy n f) 2 with
     | true=>exact A1 (Ar (Ar hL hL) hL) _ (Afo _ _ _ n f (ofNat (Aj (λk=>Ax (f k)) n)) (ofNat (Aj (λk=>Aw (f k)) n)) n 0 hA hB c3 (Ai (h0 _ _)) (Ai (h2 _ _)))
     | false =>
      cases c4:ilt (Ii n f) 2 with
      | true=>exact A1 (Ar (Ar hL hL) hL) _ (Afl _ _ _ n f (ofNat (Aj (λk=>Ax (f k)) n)) (ofNat (Aj (λk=>Aw (f k)) n)) n 0 hA hB c3 c4 (Ai (h0 _ _)) (Ai (h2 _ _)))
      | false =>
       show _ = some (V.tup [iV (Ij n f).1,iV (Ij n f).2],[])
       unfold Ij crR
       cases c5:Ba (AH n (Ay (λk=>Aw (f k)) n) (λi=>isW (f i)) 2) n 0 with
       | some t =>
        rw [show (Ba (AH n (pM n f) (λi=>isW (f i)) 2) n 0) = some t from c5] at h4
        exact A1 (Ar (Ar (Ar hL hL) hL) hL) _ (Afk _ _ _ _ n f (ofNat (Aj (λk=>Ax (f k)) n)) (ofNat (Aj (λk=>Aw (f k)) n)) n 0 t hA hB c3 c4 hF (Ai (h0 _ _)) (Ai (h2 _ _)) (Ai (h4 _ _)))
       | none =>
        rw [show (Ba (AH n (pM n f) (λi=>isW (f i)) 2) n 0) = none from c5] at h4
        cases c6:Ba (AH n (Ay (λk=>Ax (f k)) n) (λ_=>true) 12) n 0 with
        | some t =>
         rw [show (Ba (AH n (pO n f) (λ_=>true) 12) n 0) = some t from c6] at h6
         exact A1 (Ar (Ar (Ar (Ar hL hL) hL) hL) hL) _ (Afs _ _ _ _ _ n f (ofNat (Aj (λk=>Ax (f k)) n)) (ofNat (Aj (λk=>Aw (f k)) n)) n 0 0 t hA hB c3 c4 hF (Ai (h0 _ _)) (Ai (h2 _ _)) (Ai (h4 _ _)) (Ai (h6 _ _)))
        | none =>
         rw [show (Ba (AH n (pO n f) (λ_=>true) 12) n 0) = none from c6] at h6
         exact A1 (Ar (Ar (Ar (Ar hL hL) hL) hL) hL) _ (Afj _ _ _ _ _ n f (ofNat (Aj (λk=>Ax (f k)) n)) (ofNat (Aj (λk=>Aw (f k)) n)) n 0 0 0 hA hB c3 c4 hF (Ai (h0 _ _)) (Ai (h2 _ _)) (Ai (h4 _ _)) (Ai (h6 _ _)))
def Kr (n:Nat) (_:Nat->E6):Lp:=⟨(bmK 133 0 [0,1,4,5,6,7,8,9]),0,bmK 133 0 [1,4,5,6,7,8],0,n+1⟩
def EV (n:Nat) (f:Nat->E6) (x y:Int) (i:Nat) (j:Nat->V):St:=⟨(jsV 133 0 j [(0,iV 2),(1,.sl 6 n (λi=>eV (f i))),(4,iV 0),(5,iV 0),(6,nV n),(7,iV x),(8,iV y),(9,nV i)]),[]⟩
def BV (n:Nat) (f:Nat->E6) (x y:Int) (_:Nat):Ex × St:=(.ex 0,⟨(jsV 133 0 (λ_=>.und) [(1,.sl 6 n (λi=>eV (f i))),(4,iV 0),(5,iV 0),(6,nV n),(7,iV x),(8,iV y)]),[]⟩)
def V6 (n:Nat) (f:Nat->E6) (x y:Int) (i:Nat):Ex × St:=(.rt,⟨(jsV 133 0 (λ_=>.und) [(1,.sl 6 n (λi=>eV (f i))),(4,iV 30),(5,nV i),(6,nV n),(7,iV x),(8,iV y)]),[]⟩)
def V5 (n:Nat) (f:Nat->E6) (x y:Int) (i:Nat):Ex × St:=(.rt,⟨(jsV 133 0 (λ_=>.und) [(1,.sl 6 n (λi=>eV (f i))),(4,iV 5),(5,nV i),(6,nV n),(7,iV x),(8,iV y)]),[]⟩)
noncomputable def Cw (L:LT):St->T (Ex × St):=λst=>AD tab ⟨Ak CO,L,Gl⟩ (As Tryz.f47 0) 0 st
section
variable (L:LT) (n:Nat) (f:Nat->E6) (x y:Int) (i:Nat)  (j:Nat->V)
include L n f x y i j
theorem AhT (h0:ilt (ofNat i) (ofNat n) = false):Ag (Cw L) (Kr n f) (EV n f x y i j) = some ((.ex 0),⟨(jsV 133 0 (λ_=>.und) [(1,(.sl 6 n (λi=>(eV (f i))))),(4,(iV 0)),(5,(iV 0)),(6,(nV n)),(7,(iV x)),(8,(iV y))]),[]⟩):=by
 exact Aa (ks:=[kn h0]) (by kernel_rfl)
theorem AhS (h0:ilt (ofNat i) (ofNat n) = true) (h1:Al (ile 0 (ofNat i)) (ilt (ofNat i) (ofNat n)) = true) (h2:ieq (AQ (f i)) 0 = false):Ag (Cw L) (Kr n f) (EV n f x y i j) = some (.rt,⟨(jsV 133 0 (λ_=>.und) [(1,(.sl 6 n (λi=>(eV (f i))))),(4,(iV 30)),(5,(nV i)),(6,(nV n)),(7,(iV x)),(8,(iV y))]),[]⟩):=by
 exact Aa (ks:=[kn h0,kn h1,kN (kn h2)]) (by kernel_rfl)
theorem AhR (h0:ilt (ofNat i) (ofNat n) = true) (h1:Al (ile 0 (ofNat i)) (ilt (ofNat i) (ofNat n)) = true) (h2:ieq (AQ (f i)) 0 = true) (h3:Hj 2 (f i) = false):Ag (Cw L) (Kr n f) (EV n f x y i j) = some (.rt,⟨(jsV 133 0 (λ_=>.und) [(1,(.sl 6 n (λi=>(eV (f i))))),(4,(iV 5)),(5,(nV i)),(6,(nV n)),(7,(iV x)),(8,(iV y))]),[]⟩):=by
 exact Aa (ks:=[kn h0,kn h1,kN (kn h2),kn h1,kN (kn h3)]) (by kernel_rfl)
theorem AcT (h0:ilt (ofNat i) (ofNat n) = true) (h1:Al (ile 0 (ofNat i)) (ilt (ofNat i) (ofNat n)) = true) (h2:ieq (AQ (f i)) 0 = true) (h3:Hj 2 (f i) = true) (h4:Ax (f i) = false) (h5:Aw (f i) = false):Ag (Cw L) (Kr n f) (EV n f x y i j) = some (.nm,⟨(jsV 133 0 (λ_=>.und) [(0,(iV 2)),(1,(.sl 6 n (λi=>(eV (f i))))),(4,(iV 0)),(5,(iV 0)),(6,(nV n)),(7,(iV x)),(8,(iV y)),(9,(iV (wr .i64 (Af (ofNat i) 1))))]),[]⟩):=by
 exact Aa (ks:=[kn h0,kn h1,kN (kn h2),kn h1,kN (kn h3),kn h1,kn h4,kn h1,kn h5]) (by kernel_rfl)
theorem AcU (h0:ilt (ofNat i) (ofNat n) = true) (h1:Al (ile 0 (ofNat i)) (ilt (ofNat i) (ofNat n)) = true) (h2:ieq (AQ (f i)) 0 = true) (h3:Hj 2 (f i) = true) (h4:Ax (f i) = false) (h5:Aw (f i) = true):Ag (Cw L) (Kr n f) (EV n f x y i j) = some (.nm,⟨(jsV 133 0 (λ_=>.und) [(0,(iV 2)),(1,(.sl 6 n (λi=>(eV (f i))))),(4,(iV 0)),(5,(iV 0)),(6,(nV n)),(7,(iV x)),(8,(iV (wr .i64 (Af y 1)))),(9,(iV (wr .i64 (Af (ofNat i) 1))))]),[]⟩):=by
 exact Aa (ks:=[kn h0,kn h1,kN (kn h2),kn h1,kN (kn h3),kn h1,kn h4,kn h1,kn h5]) (by kernel_rfl)
theorem AcR (h0:ilt (ofNat i) (ofNat n) = true) (h1:Al (ile 0 (ofNat i)) (ilt (ofNat i) (ofNat n)) = true) (h2:ieq (AQ (f i)) 0 = true) (h3:Hj 2 (f i) = true) (h4:Ax (f i) = true) (h5:Aw (f i) = false):Ag (Cw L) (Kr n f) (EV n f x y i j) = some (.nm,⟨(jsV 133 0 (λ_=>.und) [(0,(iV 2)),(1,(.sl 6 n (λi=>(eV (f i))))),(4,(iV 0)),(5,(iV 0)),(6,(nV n)),(7,(iV (wr .i64 (Af x 1)))),(8,(iV y)),(9,(iV (wr .i64 (Af (ofNat i) 1))))]),[]⟩):=by
 exact Aa (ks:=[kn h0,kn h1,kN (kn h2),kn h1,kN (kn h3),kn h1,kn h4,kn h1,kn h5]) (by kernel_rfl)
theorem AcS (h0:ilt (ofNat i) (ofNat n) = true) (h1:Al (ile 0 (ofNat i)) (ilt (ofNat i) (ofNat n)) = true) (h2:ieq (AQ (f i)) 0 = true) (h3:Hj 2 (f i) = true) (h4:Ax (f i) = true) (h5:Aw (f i) = true):Ag (Cw L) (Kr n f) (EV n f x y i j) = some (.nm,⟨(jsV 133 0 (λ_=>.und) [(0,(iV 2)),(1,(.sl 6 n (λi=>(eV (f i))))),(4,(iV 0)),(5,(iV 0)),(6,(nV n)),(7,(iV (wr .i64 (Af x 1)))),(8,(iV (wr .i64 (Af y 1)))),(9,(iV (wr .i64 (Af (ofNat i) 1))))]),[]⟩):=by
 exact Aa (ks:=[kn h0,kn h1,kN (kn h2),kn h1,kN (kn h3),kn h1,kn h4,kn h1,kn h5]) (by kernel_rfl)
end
def M5 (n:Nat) (f:Nat->E6) :Nat->V:=lkV A7 [(17,(iV 2)),(18,(bV (AG (ieq 2 1)))),(19,(bV (AG (ieq 2 1)))),(20,(iV 2)),(21,(bV (AG (ieq 2 2)))),(22,(bV (AG (ieq 2 2)))),(23,(.sl 6 n (λi=>eV (f i)))),(24,(nV n)),(25,(nV n)),(26,(bV (ilt (ofNat n) 2))),(27,(bV (ilt (ofNat n) 2))),(28,(nV n)),(29,(bV (ilt 16 (ofNat n)))),(30,(bV (ilt 16 (ofNat n))))]
def Kv (n:Nat) (_:Nat->E6):Lp:=⟨(bmK 133 0 [1,4,5,6,7,8,12]),0,bmK 133 0 [1,4,5,6,7,8],0,n+1⟩
def En (n:Nat) (f:Nat->E6) (x y:Int) (i:Nat) (j:Nat->V):St:=⟨(jsV 133 0 j [(1,.sl 6 n (λi=>eV (f i))),(4,iV 0),(5,iV 0),(6,nV n),(7,iV x),(8,iV y),(12,nV i)]),[]⟩
def B4 (n:Nat) (f:Nat->E6) (x y:Int) (_:Nat):Ex × St:=(.ex 2,⟨(jsV 133 0 (λ_=>.und) [(1,.sl 6 n (λi=>eV (f i))),(4,iV 0),(5,iV 0),(6,nV n),(7,iV x),(8,iV y)]),[]⟩)
def KL (n:Nat) (f:Nat->E6) (x y:Int) (i:Nat):Ex × St:=(.rt,⟨(jsV 133 0 (λ_=>.und) [(1,.sl 6 n (λi=>eV (f i))),(4,iV 41),(5,nV i),(6,nV n),(7,iV x),(8,iV y)]),[]⟩)
noncomputable def CM (L:LT):St->T (Ex × St):=λst=>AD tab ⟨Ak CO,L,Gl⟩ (As Tryz.f47 2) 2 st
section
variable (L:LT) (n:Nat) (f:Nat->E6) (x y:Int) (i:Nat)  (j:Nat->V)
include L n f x y i j
theorem AhM (h0:ilt (ofNat i) (ofNat n) = false):Ag (CM L) (Kv n f) (En n f x y i j) = some ((.ex 2),⟨(jsV 133 0 (λ_=>.und) [(1,(.sl 6 n (λi=>(eV (f i))))),(4,(iV 0)),(5,(iV 0)),(6,(nV n)),(7,(iV x)),(8,(iV y))]),[]⟩):=by
 exact Aa (ks:=[kn h0]) (by kernel_rfl)
theorem AhL (h0:ilt (ofNat i) (ofNat n) = true) (h1:Al (ile 0 (ofNat i)) (ilt (ofNat i) (ofNat n)) = true) (h2:ieq (ofNat n) 0 = false) (h3:Al (ile 0 (Ae (wr .i64 (Af (ofNat i) 1)) (ofNat n))) (ilt (Ae (wr .i64 (Af (ofNat i) 1)) (ofNat n)) (ofNat n)) = true) (h4:ieq ((f i)).dst ((f (toN (Ae (wr .i64 (Af (ofNat i) 1)) (ofNat n))))).src = false):Ag (CM L) (Kv n f) (En n f x y i j) = some (.rt,⟨(jsV 133 0 (λ_=>.und) [(1,(.sl 6 n (λi=>(eV (f i))))),(4,(iV 41)),(5,(nV i)),(6,(nV n)),(7,(iV x)),(8,(iV y))]),[]⟩):=by
 exact Aa (ks:=[kn h0,kn h1,kn h2,kn h3,kN (kn h4)]) (by kernel_rfl)
theorem AhK (h0:ilt (ofNat i) (ofNat n) = true) (h1:Al (ile 0 (ofNat i)) (ilt (ofNat i) (ofNat n)) = true) (h2:ieq (ofNat n) 0 = false) (h3:Al (ile 0 (Ae (wr .i64 (Af (ofNat i) 1)) (ofNat n))) (ilt (Ae (wr .i64 (Af (ofNat i) 1)) (ofNat n)) (ofNat n)) = true) (h4:ieq ((f i)).dst ((f (toN (Ae (wr .i64 (Af (ofNat i) 1)) (ofNat n))))).src = true):Ag (CM L) (Kv n f) (En n f x y i j) = some (.nm,⟨(jsV 133 0 (λ_=>.und) [(1,(.sl 6 n (λi=>(eV (f i))))),(4,(iV 0)),(5,(iV 0)),(6,(nV n)),(7,(iV x)),(8,(iV y)),(12,(iV (wr .i64 (Af (ofNat i) 1))))]),[]⟩):=by
 exact Aa (ks:=[kn h0,kn h1,kn h2,kn h3,kN (kn h4)]) (by kernel_rfl)
end
def IL (_:Nat) (_:Nat->E6) (_ _:Int) (_:Nat):Nat->V:=lkV A7 [(0,.und),(2,.und),(3,.und),(9,.und),(10,.und),(11,.und),(13,.und),(14,.und),(15,.und),(16,.und),(17,.und),(18,.und),(19,.und),(20,.und),(21,.und),(22,.und),(23,.und),(24,.und),(25,.und),(26,.und),(27,.und),(28,.und),(29,.und),(30,.und),(31,.und),(32,.und),(33,.und),(34,.und),(35,.und),(36,.und),(37,.und),(38,.und),(39,.und),(40,.und),(41,.und),(42,.und),(43,.und),(44,.und),(45,.und),(46,.und),(47,.und),(48,.und),(49,.und),(50,.und),(51,.und),(52,.und),(53,.und),(54,.und),(55,.und),(56,.und),(57,.und),(58,.und),(59,.und),(60,.und),(61,.und),(62,.und),(63,.und),(64,.und),(65,.und),(66,.und),(67,.und),(68,.und),(69,.und),(70,.und),(71,.und),(72,.und),(73,.und),(74,.und),(75,.und),(76,.und),(77,.und),(78,.und),(79,.und),(80,.und),(81,.und),(82,.und),(83,.und),(84,.und),(85,.und),(86,.und),(87,.und),(88,.und),(89,.und),(90,.und),(91,.und),(92,.und),(93,.und),(94,.und),(95,.und),(96,.und),(97,.und),(98,.und),(99,.und),(100,.und),(101,.und),(102,.und),(103,.und),(104,.und),(105,.und),(106,.und),(107,.und),(108,.und),(109,.und),(110,.und),(111,.und),(112,.und),(113,.und),(114,.und),(115,.und),(116,.und),(117,.und),(118,.und),(119,.und),(120,.und),(121,.und),(122,.und),(123,.und),(124,.und),(125,.und),(126,.und),(127,.und),(128,.und),(129,.und),(130,.und),(131,.und),(132,.und)]
def II (n:Nat) (_:Nat->E6):Lp:=⟨(bmK 133 0 [1,4,5,6,13,14,15]),2,bmK 133 0 [1,4,5,6,13],2,n+1⟩
def FE (n:Nat) (f:Nat->E6) (u v:Nat->Int) (i:Nat) (j:Nat->V):St:=⟨(jsV 133 0 j [(1,.sl 6 n (λi=>eV (f i))),(4,iV 0),(5,iV 0),(6,nV n),(13,.ref 0),(14,.ref 1),(15,nV i)]),[.row 3 1 n (λk=>iV (u k)),.row 3 1 n (λk=>iV (v k))]⟩
def CW (n:Nat) (f:Nat->E6) (u v:Nat->Int) (_:Nat):Ex × St:=(.ex 4,⟨(jsV 133 0 (λ_=>.und) [(1,.sl 6 n (λi=>eV (f i))),(4,iV 0),(5,iV 0),(6,nV n),(13,.ref 0)]),[.row 3 1 n (λk=>iV (u k)),.row 3 1 n (λk=>iV (v k))]⟩)
def Ih (n:Nat) (f:Nat->E6) (u v:Nat->Int) (i:Nat):Ex × St:=(.rt,⟨(jsV 133 0 (λ_=>.und) [(1,.sl 6 n (λi=>eV (f i))),(4,iV 44),(5,nV i),(6,nV n),(13,.ref 0)]),[.row 3 1 n (λk=>iV (u k)),.row 3 1 n (λk=>iV (v k))]⟩)
noncomputable def DC (L:LT):St->T (Ex × St):=λst=>AD tab ⟨Ak CO,L,Gl⟩ (As Tryz.f47 4) 4 st
section
variable (L:LT) (n:Nat) (f:Nat->E6) (u v:Nat->Int) (i:Nat)  (j:Nat->V)
include L n f u v i j
theorem Ahk (h0:ilt (ofNat i) (ofNat n) = false):Ag (DC L) (II n f) (FE n f u v i j) = some ((.ex 4),⟨(jsV 133 0 (λ_=>.und) [(1,(.sl 6 n (λi=>(eV (f i))))),(4,(iV 0)),(5,(iV 0)),(6,(nV n)),(13,(.ref 0))]),[(.row 3 1 n (λk=>(iV (u k)))),(.row 3 1 n (λk=>(iV (v k))))]⟩):=by
 exact Aa (ks:=[kn h0]) (by kernel_rfl)
theorem Ahn (h0:ilt (ofNat i) (ofNat n) = true) (h1:Al (ile 0 (ofNat i)) (ilt (ofNat i) (ofNat n)) = true) (h2:ieq ((f i)).src 2 = false):Ag (DC L) (II n f) (FE n f u v i j) = some (.nm,⟨(jsV 133 0 (λ_=>.und) [(1,(.sl 6 n (λi=>(eV (f i))))),(4,(iV 0)),(5,(iV 0)),(6,(nV n)),(13,(.ref 0)),(14,(.ref 1)),(15,(iV (wr .i64 (Af (ofNat i) 1))))]),[(.row 3 1 n (λk=>(iV (u k)))),(.row 3 1 n (λk=>(iV (v k))))]⟩):=by
 exact Aa (ks:=[kn h0,kn h1,kn h2,kn h2,kn h2,kn h2,kn h2,kn h2,kn h2,kn h2,kn h2,kF]) (by kernel_rfl)
theorem Ahm (h0:ilt (ofNat i) (ofNat n) = true) (h1:Al (ile 0 (ofNat i)) (ilt (ofNat i) (ofNat n)) = true) (h2:ieq ((f i)).src 2 = true) (h15:nlt i n = true) (h3:AB n n = true) (h4:Ao n = true) (h5:ilt 2 (Gp n v (λi=>(bor (AG true) (isW (f i)))) (v i)) = false):Ag (DC L) (II n f) (FE n f u v i j) = some (.nm,⟨(jsV 133 0 (λ_=>.und) [(1,(.sl 6 n (λi=>(eV (f i))))),(4,(iV 0)),(5,(iV 0)),(6,(nV n)),(13,(.ref 0)),(14,(.ref 1)),(15,(iV (wr .i64 (Af (ofNat i) 1))))]),[(.row 3 1 n (λk=>(iV (u k)))),(.row 3 1 n (λk=>(iV (v k))))]⟩):=by
 exact Aa (ks:=[kn h0,kn h1,kn h2,kn h2,kn h2,kn h2,kn h2,kn h1,kn h2,kn h15,kn h2,kL n,kL n,kn h3,kn h4,kn h2,kn h2,kn h5]) (by kernel_rfl)
theorem Ahl (h0:ilt (ofNat i) (ofNat n) = true) (h1:Al (ile 0 (ofNat i)) (ilt (ofNat i) (ofNat n)) = true) (h2:ieq ((f i)).src 2 = true) (h15:nlt i n = true) (h3:AB n n = true) (h4:Ao n = true) (h5:ilt 2 (Gp n v (λi=>(bor (AG true) (isW (f i)))) (v i)) = true):Ag (DC L) (II n f) (FE n f u v i j) = some (.rt,⟨(jsV 133 0 (λ_=>.und) [(1,(.sl 6 n (λi=>(eV (f i))))),(4,(iV 44)),(5,(nV i)),(6,(nV n)),(13,(.ref 0))]),[(.row 3 1 n (λk=>(iV (u k)))),(.row 3 1 n (λk=>(iV (v k))))]⟩):=by
 exact Aa (ks:=[kn h0,kn h1,kn h2,kn h2,kn h2,kn h2,kn h2,kn h1,kn h2,kn h15,kn h2,kL n,kL n,kn h3,kn h4,kn h2,kn h2,kn h5]) (by kernel_rfl)
end
def Rv (n:Nat) (f:Nat->E6) (x y:Int) (_ _:Nat):Nat->V:=lkV A7 [(0,.und),(2,.und),(3,.und),(7,(iV x)),(8,(iV y)),(9,.und),(10,.und),(11,.und),(12,.und),(16,.und),(17,.und),(18,.und),(19,.und),(20,.und),(21,.und),(22,.und),(23,.und),(24,.und),(25,.und),(26,.und),(27,.und),(28,.und),(29,.und),(30,.und),(31,.und),(32,.und),(33,.und),(34,.und),(35,.und),(36,.und),(37,.und),(38,.und),(39,.und),(40,.und),(41,.und),(42,.und),(43,.und),(44,.und),(45,.und),(46,.und),(47,.und),(48,.und),(49,.und),(50,.und),(51,.und),(52,.und),(53,.und),(54,.und),(55,.und),(56,.und),(57,.und),(58,.und),(59,.und),(60,.und),(61,.und),(62,.und),(63,.und),(64,.und),(65,.und),(66,.und),(67,.und),(68,.und),(69,.und),(70,.und),(71,.und),(72,.und),(73,.und),(74,.und),(75,.und),(76,.und),(77,.und),(78,.und),(79,.und),(80,.und),(81,.und),(82,.und),(83,.und),(84,.und),(85,.und),(86,.und),(87,.und),(88,.und),(89,(iV x)),(90,(bV (ilt x 2))),(91,(iV y)),(92,(bV (ilt y 2))),(93,(.sl 6 n (λi=>eV (f i)))),(94,(.ref 0)),(95,(.sl 6 n (λi=>eV (f i)))),(96,(.ref 1)),(97,.und),(98,.und),(99,.und),(100,.und),(101,.und),(102,.und),(103,.und),(104,.und),(105,.und),(106,.und),(107,.und),(108,.und),(109,.und),(110,.und),(111,.und),(112,.und),(113,.und),(114,.und),(115,.und),(116,.und),(117,.und),(118,.und),(119,.und),(120,.und),(121,.und),(122,.und),(123,.und),(124,.und),(125,.und),(126,.und),(127,.und),(128,.und),(129,.und),(130,.und),(131,.und),(132,.und)]
def Kt (n:Nat) (_:Nat->E6):Lp:=⟨(bmK 133 0 [1,4,5,6,13,16]),2,bmK 133 0 [4,5],0,n+1⟩
def I3 (n:Nat) (f:Nat->E6) (u v:Nat->Int) (i:Nat) (j:Nat->V):St:=⟨(jsV 133 0 j [(1,.sl 6 n (λi=>eV (f i))),(4,iV 0),(5,iV 0),(6,nV n),(13,.ref 0),(16,nV i)]),[.row 3 1 n (λk=>iV (u k)),.row 3 1 n (λk=>iV (v k))]⟩
def GE (_:Nat) (_:Nat->E6) (_ _:Nat->Int) (_:Nat):Ex × St:=(.ex 6,⟨(jsV 133 0 (λ_=>.und) [(4,iV 0),(5,iV 0)]),[]⟩)
def GF (_:Nat) (_:Nat->E6) (_ _:Nat->Int) (i:Nat):Ex × St:=(.rt,⟨(jsV 133 0 (λ_=>.und) [(4,iV 45),(5,nV i)]),[]⟩)
noncomputable def Fr (L:LT):St->T (Ex × St):=λst=>AD tab ⟨Ak CO,L,Gl⟩ (As Tryz.f47 6) 6 st
section
variable (L:LT) (n:Nat) (f:Nat->E6) (u v:Nat->Int) (i:Nat)  (j:Nat->V)
include L n f u v i j
theorem AgQ (h0:ilt (ofNat i) (ofNat n) = false):Ag (Fr L) (Kt n f) (I3 n f u v i j) = some ((.ex 6),⟨(jsV 133 0 (λ_=>.und) [(4,(iV 0)),(5,(iV 0))]),[]⟩):=by
 exact Aa (ks:=[kn h0]) (by kernel_rfl)
theorem AgS (h0:ilt (ofNat i) (ofNat n) = true) (h1:Al (ile 0 (ofNat i)) (ilt (ofNat i) (ofNat n)) = true) (h14:nlt i n = true) (h2:AB n n = true) (h3:Ao n = true) (h4:ilt 12 (Gp n u (λi=>(bor (AG false) (isW (f i)))) (u i)) = false):Ag (Fr L) (Kt n f) (I3 n f u v i j) = some (.nm,⟨(jsV 133 0 (λ_=>.und) [(1,(.sl 6 n (λi=>(eV (f i))))),(4,(iV 0)),(5,(iV 0)),(6,(nV n)),(13,(.ref 0)),(16,(iV (wr .i64 (Af (ofNat i) 1))))]),[(.row 3 1 n (λk=>(iV (u k)))),(.row 3 1 n (λk=>(iV (v k))))]⟩):=by
 exact Aa (ks:=[kn h0,kn h1,kn h14,kL n,kL n,kn h2,kn h3,kn h4]) (by kernel_rfl)
theorem AgR (h0:ilt (ofNat i) (ofNat n) = true) (h1:Al (ile 0 (ofNat i)) (ilt (ofNat i) (ofNat n)) = true) (h14:nlt i n = true) (h2:AB n n = true) (h3:Ao n = true) (h4:ilt 12 (Gp n u (λi=>(bor (AG false) (isW (f i)))) (u i)) = true):Ag (Fr L) (Kt n f) (I3 n f u v i j) = some (.rt,⟨(jsV 133 0 (λ_=>.und) [(4,(iV 45)),(5,(nV i))]),[]⟩):=by
 exact Aa (ks:=[kn h0,kn h1,kn h14,kL n,kL n,kn h2,kn h3,kn h4]) (by kernel_rfl)
end
def WO (_:Nat) (_:Nat->E6) (_ _:Int) (_ _:Nat) (_ _:Nat->Int) (_:Nat):Nat->V:=lkV A7 [(0,.und),(2,.und),(3,.und),(7,.und),(8,.und),(9,.und),(10,.und),(11,.und),(12,.und),(14,.und),(15,.und),(17,.und),(18,.und),(19,.und),(20,.und),(21,.und),(22,.und),(23,.und),(24,.und),(25,.und),(26,.und),(27,.und),(28,.und),(29,.und),(30,.und),(31,.und),(32,.und),(33,.und),(34,.und),(35,.und),(36,.und),(37,.und),(38,.und),(39,.und),(40,.und),(41,.und),(42,.und),(43,.und),(44,.und),(45,.und),(46,.und),(47,.und),(48,.und),(49,.und),(50,.und),(51,.und),(52,.und),(53,.und),(54,.und),(55,.und),(56,.und),(57,.und),(58,.und),(59,.und),(60,.und),(61,.und),(62,.und),(63,.und),(64,.und),(65,.und),(66,.und),(67,.und),(68,.und),(69,.und),(70,.und),(71,.und),(72,.und),(73,.und),(74,.und),(75,.und),(76,.und),(77,.und),(78,.und),(79,.und),(80,.und),(81,.und),(82,.und),(83,.und),(84,.und),(85,.und),(86,.und),(87,.und),(88,.und),(89,.und),(90,.und),(91,.und),(92,.und),(93,.und),(94,.und),(95,.und),(96,.und),(97,.und),(98,.und),(99,.und),(100,.und),(101,.und),(102,.und),(103,.und),(104,.und),(105,.und),(106,.und),(107,.und),(108,.und),(109,.und),(110,.und),(111,.und),(112,.und),(113,.und),(114,.und),(115,.und),(116,.und),(117,.und),(118,.und),(119,.und),(120,.und),(121,.und),(122,.und),(123,.und),(124,.und),(125,.und),(126,.und),(127,.und),(128,.und),(129,.und),(130,.und),(131,.und),(132,.und)]
section
variable (L:LT) (p0:PT) (n:Nat) (f:Nat->E6) (x y:Int) (i:Nat)
include L p0 n f x y i
theorem Af1 (h0:ilt (ofNat n) 2 = false) (h1:ilt 16 (ofNat n) = false) (hp0:p0 (Cw (onP 0 p0 (V6 n f x y i) L)) (EV n f 0 0 0 (M5 n f )) = true):(Au (Ah tab ⟨Ak CO,(onP 0 p0 (V6 n f x y i) L),Gl⟩ Tryz.f47 [iV 2,A5 n f] [])).sem = some ((.tup [(iV 30),(nV i)]),[]):=by
 exact Aa (ks:=[kN (⟨ieq 2 1,false,rfl⟩),kN (⟨ieq 2 1,false,rfl⟩),kN (⟨ieq 2 1,false,rfl⟩),kN (kI 2),kn h0,kn h0,kn h0,kn h1,kn hp0]) (by kernel_rfl)
theorem Af0 (h0:ilt (ofNat n) 2 = false) (h1:ilt 16 (ofNat n) = false) (hp0:p0 (Cw (onP 0 p0 (V5 n f x y i) L)) (EV n f 0 0 0 (M5 n f )) = true):(Au (Ah tab ⟨Ak CO,(onP 0 p0 (V5 n f x y i) L),Gl⟩ Tryz.f47 [iV 2,A5 n f] [])).sem = some ((.tup [(iV 5),(nV i)]),[]):=by
 exact Aa (ks:=[kN (⟨ieq 2 1,false,rfl⟩),kN (⟨ieq 2 1,false,rfl⟩),kN (⟨ieq 2 1,false,rfl⟩),kN (kI 2),kn h0,kn h0,kn h0,kn h1,kn hp0]) (by kernel_rfl)
end
section
variable (L:LT) (p0:PT) (p2:PT) (n:Nat) (f:Nat->E6) (x y:Int) (i:Nat) (i2:Nat)
include L p0 p2 n f x y i i2
theorem Afz (h0:ilt (ofNat n) 2 = false) (h1:ilt 16 (ofNat n) = false) (hp0:p0 (Cw (onP 0 p0 (BV n f x y i) (onP 2 p2 (KL n f x y i2) L))) (EV n f 0 0 0 (M5 n f )) = true) (hp2:p2 (CM (onP 0 p0 (BV n f x y i) (onP 2 p2 (KL n f x y i2) L))) (En n f x y 0 (IL n f x y i)) = true):(Au (Ah tab ⟨Ak CO,(onP 0 p0 (BV n f x y i) (onP 2 p2 (KL n f x y i2) L)),Gl⟩ Tryz.f47 [iV 2,A5 n f] [])).sem = some ((.tup [(iV 41),(nV i2)]),[]):=by
 exact Aa (ks:=[kN (⟨ieq 2 1,false,rfl⟩),kN (⟨ieq 2 1,false,rfl⟩),kN (⟨ieq 2 1,false,rfl⟩),kN (kI 2),kn h0,kn h0,kn h0,kn h1,kn hp0,kn hp2]) (by kernel_rfl)
theorem Afy (h0:ilt (ofNat n) 2 = false) (h1:ilt 16 (ofNat n) = false) (h2:ilt x 2 = true) (hp0:p0 (Cw (onP 0 p0 (BV n f x y i) (onP 2 p2 (B4 n f x y i2) L))) (EV n f 0 0 0 (M5 n f )) = true) (hp2:p2 (CM (onP 0 p0 (BV n f x y i) (onP 2 p2 (B4 n f x y i2) L))) (En n f x y 0 (IL n f x y i)) = true):(Au (Ah tab ⟨Ak CO,(onP 0 p0 (BV n f x y i) (onP 2 p2 (B4 n f x y i2) L)),Gl⟩ Tryz.f47 [iV 2,A5 n f] [])).sem = some ((.tup [(iV 42),(iV 0)]),[]):=by
 exact Aa (ks:=[kN (⟨ieq 2 1,false,rfl⟩),kN (⟨ieq 2 1,false,rfl⟩),kN (⟨ieq 2 1,false,rfl⟩),kN (kI 2),kn h0,kn h0,kn h0,kn h1,kn hp0,kn hp2,kn h2]) (by kernel_rfl)
theorem Afv (h0:ilt (ofNat n) 2 = false) (h1:ilt 16 (ofNat n) = false) (h2:ilt x 2 = false) (h3:ilt y 2 = true) (hp0:p0 (Cw (onP 0 p0 (BV n f x y i) (onP 2 p2 (B4 n f x y i2) L))) (EV n f 0 0 0 (M5 n f )) = true) (hp2:p2 (CM (onP 0 p0 (BV n f x y i) (onP 2 p2 (B4 n f x y i2) L))) (En n f x y 0 (IL n f x y i)) = true):(Au (Ah tab ⟨Ak CO,(onP 0 p0 (BV n f x y i) (onP 2 p2 (B4 n f x y i2) L)),Gl⟩ Tryz.f47 [iV 2,A5 n f] [])).sem = some ((.tup [(iV 43),(iV 0)]),[]):=by
 exact Aa (ks:=[kN (⟨ieq 2 1,false,rfl⟩),kN (⟨ieq 2 1,false,rfl⟩),kN (⟨ieq 2 1,false,rfl⟩),kN (kI 2),kn h0,kn h0,kn h0,kn h1,kn hp0,kn hp2,kn h2,kn h3]) (by kernel_rfl)
end
theorem Afu (L:LT) (p0:PT) (p2:PT) (p4:PT) (n:Nat) (f:Nat->E6) (x y:Int) (i:Nat) (i2 i4:Nat) (h0:ilt (ofNat n) 2 = false) (h1:ilt 16 (ofNat n) = false) (h2:ilt x 2 = false) (h3:ilt y 2 = false) (h4:Be n = true) (hp0:p0 (Cw (onP 0 p0 (BV n f x y i) (onP 2 p2 (B4 n f x y i2) (onP 4 p4 (Ih n f (pO n f) (pM n f) i4) L)))) (EV n f 0 0 0 (M5 n f )) = true) (hp2:p2 (CM (onP 0 p0 (BV n f x y i) (onP 2 p2 (B4 n f x y i2) (onP 4 p4 (Ih n f (pO n f) (pM n f) i4) L)))) (En n f x y 0 (IL n f x y i)) = true) (hp4:p4 (DC (onP 0 p0 (BV n f x y i) (onP 2 p2 (B4 n f x y i2) (onP 4 p4 (Ih n f (pO n f) (pM n f) i4) L)))) (FE n f (pO n f) (pM n f) 0 (Rv n f x y i i2)) = true):(Au (Ah tab ⟨Ak CO,(onP 0 p0 (BV n f x y i) (onP 2 p2 (B4 n f x y i2) (onP 4 p4 (Ih n f (pO n f) (pM n f) i4) L))),Gl⟩ Tryz.f47 [iV 2,A5 n f] [])).sem = some ((.tup [(iV 44),(nV i4)]),[]):=by
 exact Aa (ks:=[kN (⟨ieq 2 1,false,rfl⟩),kN (⟨ieq 2 1,false,rfl⟩),kN (⟨ieq 2 1,false,rfl⟩),kN (kI 2),kn h0,kn h0,kn h0,kn h1,kn hp0,kn hp2,kn h2,kn h3,kL n,kn h4,kL n,kn h4,kn hp4]) (by kernel_rfl)
section
variable (L:LT) (p0:PT) (p2:PT) (p4:PT) (p6:PT) (n:Nat) (f:Nat->E6) (x y:Int) (i:Nat) (i2 i4 i6:Nat)
include L p0 p2 p4 p6 n f x y i i2 i4 i6
theorem Af2 (h0:ilt (ofNat n) 2 = false) (h1:ilt 16 (ofNat n) = false) (h2:ilt x 2 = false) (h3:ilt y 2 = false) (h4:Be n = true) (hp0:p0 (Cw (onP 0 p0 (BV n f x y i) (onP 2 p2 (B4 n f x y i2) (onP 4 p4 (CW n f (pO n f) (pM n f) i4) (onP 6 p6 (GF n f (pO n f) (pM n f) i6) L))))) (EV n f 0 0 0 (M5 n f )) = true) (hp2:p2 (CM (onP 0 p0 (BV n f x y i) (onP 2 p2 (B4 n f x y i2) (onP 4 p4 (CW n f (pO n f) (pM n f) i4) (onP 6 p6 (GF n f (pO n f) (pM n f) i6) L))))) (En n f x y 0 (IL n f x y i)) = true) (hp4:p4 (DC (onP 0 p0 (BV n f x y i) (onP 2 p2 (B4 n f x y i2) (onP 4 p4 (CW n f (pO n f) (pM n f) i4) (onP 6 p6 (GF n f (pO n f) (pM n f) i6) L))))) (FE n f (pO n f) (pM n f) 0 (Rv n f x y i i2)) = true) (hp6:p6 (Fr (onP 0 p0 (BV n f x y i) (onP 2 p2 (B4 n f x y i2) (onP 4 p4 (CW n f (pO n f) (pM n f) i4) (onP 6 p6 (GF n f (pO n f) (pM n f) i6) L))))) (I3 n f (pO n f) (pM n f) 0 (WO n f x y i i2 (pO n f) (pM n f) i4)) = true):(Au (Ah tab ⟨Ak CO,(onP 0 p0 (BV n f x y i) (onP 2 p2 (B4 n f x y i2) (onP 4 p4 (CW n f (pO n f) (pM n f) i4) (onP 6 p6 (GF n f (pO n f) (pM n f) i6) L)))),Gl⟩ Tryz.f47 [iV 2,A5 n f] [])).sem = some ((.tup [(iV 45),(nV i6)]),[]):=by
 exact Aa (ks:=[kN (⟨ieq 2 1,false,rfl⟩),kN (⟨ieq 2 1,false,rfl⟩),kN (⟨ieq 2 1,false,rfl⟩),kN (kI 2),kn h0,kn h0,kn h0,kn h1,kn hp0,kn hp2,kn h2,kn h3,kL n,kn h4,kL n,kn h4,kn hp4,kn hp6]) (by kernel_rfl)
theorem Aft (h0:ilt (ofNat n) 2 = false) (h1:ilt 16 (ofNat n) = false) (h2:ilt x 2 = false) (h3:ilt y 2 = false) (h4:Be n = true) (hp0:p0 (Cw (onP 0 p0 (BV n f x y i) (onP 2 p2 (B4 n f x y i2) (onP 4 p4 (CW n f (pO n f) (pM n f) i4) (onP 6 p6 (GE n f (pO n f) (pM n f) i6) L))))) (EV n f 0 0 0 (M5 n f )) = true) (hp2:p2 (CM (onP 0 p0 (BV n f x y i) (onP 2 p2 (B4 n f x y i2) (onP 4 p4 (CW n f (pO n f) (pM n f) i4) (onP 6 p6 (GE n f (pO n f) (pM n f) i6) L))))) (En n f x y 0 (IL n f x y i)) = true) (hp4:p4 (DC (onP 0 p0 (BV n f x y i) (onP 2 p2 (B4 n f x y i2) (onP 4 p4 (CW n f (pO n f) (pM n f) i4) (onP 6 p6 (GE n f (pO n f) (pM n f) i6) L))))) (FE n f (pO n f) (pM n f) 0 (Rv n f x y i i2)) = true) (hp6:p6 (Fr (onP 0 p0 (BV n f x y i) (onP 2 p2 (B4 n f x y i2) (onP 4 p4 (CW n f (pO n f) (pM n f) i4) (onP 6 p6 (GE n f (pO n f) (pM n f) i6) L))))) (I3 n f (pO n f) (pM n f) 0 (WO n f x y i i2 (pO n f) (pM n f) i4)) = true):(Au (Ah tab ⟨Ak CO,(onP 0 p0 (BV n f x y i) (onP 2 p2 (B4 n f x y i2) (onP 4 p4 (CW n f (pO n f) (pM n f) i4) (onP 6 p6 (GE n f (pO n f) (pM n f) i6) L)))),Gl⟩ Tryz.f47 [iV 2,A5 n f] [])).sem = some ((.tup [(iV 0),(iV 0)]),[]):=by
 exact Aa (ks:=[kN (⟨ieq 2 1,false,rfl⟩),kN (⟨ieq 2 1,false,rfl⟩),kN (⟨ieq 2 1,false,rfl⟩),kN (kI 2),kn h0,kn h0,kn h0,kn h1,kn hp0,kn hp2,kn h2,kn h3,kL n,kn h4,kL n,kn h4,kn hp4,kn hp6]) (by kernel_rfl)
end
section
variable (L:LT) (n:Nat) (f:Nat->E6)
include L n f
theorem Afx (h0:ilt (ofNat n) 2 = true):(Au (Ah tab ⟨Ak CO,L,Gl⟩ Tryz.f47 [iV 2,A5 n f] [])).sem = some ((.tup [(iV 40),(iV 0)]),[]):=by
 exact Aa (ks:=[kN (⟨ieq 2 1,false,rfl⟩),kN (⟨ieq 2 1,false,rfl⟩),kN (⟨ieq 2 1,false,rfl⟩),kN (kI 2),kn h0,kn h0,kn h0,kT]) (by kernel_rfl)
theorem Afw (h0:ilt (ofNat n) 2 = false) (h1:ilt 16 (ofNat n) = true):(Au (Ah tab ⟨Ak CO,L,Gl⟩ Tryz.f47 [iV 2,A5 n f] [])).sem = some ((.tup [(iV 40),(iV 0)]),[]):=by
 exact Aa (ks:=[kN (⟨ieq 2 1,false,rfl⟩),kN (⟨ieq 2 1,false,rfl⟩),kN (⟨ieq 2 1,false,rfl⟩),kN (kI 2),kn h0,kn h0,kn h0,kn h1]) (by kernel_rfl)
end
theorem N6 (L:LT) (n:Nat) (f:Nat->E6) (hn:n <= 4611686018427387904):∀ (d i:Nat) (j:Nat->V) (q:Nat),n = i+d->d < q ->
  (AA (Cw L) (Kr n f) q (EV n f (ofNat (Aj (λk=>Ax (f k)) i)) (ofNat (Aj (λk=>Aw (f k)) i)) i j)).sem = some (match Ba (Ct 2 f) d i with
   | none=>BV n f (ofNat (Aj (λk=>Ax (f k)) n)) (ofNat (Aj (λk=>Aw (f k)) n)) n
   | some t=>match ieq (DL 2 (f t)) 0 with
    | false=>V6 n f (ofNat (Aj (λk=>Ax (f k)) t)) (ofNat (Aj (λk=>Aw (f k)) t)) t
    | true=>V5 n f (ofNat (Aj (λk=>Ax (f k)) t)) (ofNat (Aj (λk=>Aw (f k)) t)) t)
 | 0,i,j,q+1,h,_=>by
  have:n = i:=by omega
  subst this
  exact Ab (AhT L n f (ofNat (Aj (λk=>Ax (f k)) n)) (ofNat (Aj (λk=>Aw (f k)) n)) n j (A9 (Nat.le_refl _)))
 | d+1,i,j,q+1,h,h2=>by
  have hl:i < n:=by omega
  have ho:=AV (λk=>Ax (f k)) i
  have hm:=AV (λk=>Aw (f k)) i
  cases c1:ieq (AQ (f i)) 0 with
  | false =>
   have c1':ieq (DL 2 (f i)) 0 = false:=c1
   rw [BQ (show Ct 2 f i = true by rw [Ct,c1']; rfl)]
   simp only [c1']
   exact Ab (AhS L n f (ofNat (Aj (λk=>Ax (f k)) i)) (ofNat (Aj (λk=>Aw (f k)) i)) i j (ofNat_lt hl) (Ap hl) c1)
  | true =>
   have c1':ieq (DL 2 (f i)) 0 = true:=c1
   cases c2:Hj 2 (f i) with
   | false =>
    rw [BQ (show Ct 2 f i = true by rw [Ct,c1',c2]; rfl)]
    simp only [c1']
    exact Ab (AhR L n f (ofNat (Aj (λk=>Ax (f k)) i)) (ofNat (Aj (λk=>Aw (f k)) i)) i j (ofNat_lt hl) (Ap hl) c1 c2)
   | true =>
    cases c3:Ax (f i) with
    | false =>
     cases c4:Aw (f i) with
     | false =>
      rw [By (show Ct 2 f i = false by rw [Ct,show ieq (DL 2 (f i)) 0 = true from c1,c2]; rfl),Ab (AcT L n f (ofNat (Aj (λk=>Ax (f k)) i)) (ofNat (Aj (λk=>Aw (f k)) i)) i j (ofNat_lt hl) (Ap hl) c1 c2 c3 c4),Aq,An hl hn,<- B5 (p:=(λk=>Ax (f k))) c3,<- B5 (p:=(λk=>Aw (f k))) c4]
      exact N6 L n f hn d (i+1) (λ_=>.und) q (by omega) (by omega)
     | true =>
      rw [By (show Ct 2 f i = false by rw [Ct,show ieq (DL 2 (f i)) 0 = true from c1,c2]; rfl),Ab (AcU L n f (ofNat (Aj (λk=>Ax (f k)) i)) (ofNat (Aj (λk=>Aw (f k)) i)) i j (ofNat_lt hl) (Ap hl) c1 c2 c3 c4),Aq,An hl hn,An (show Aj (λk=>Aw (f k)) i < n by omega) hn,<- B5 (p:=(λk=>Ax (f k))) c3,<- Bi (p:=(λk=>Aw (f k))) c4]
      exact N6 L n f hn d (i+1) (λ_=>.und) q (by omega) (by omega)
    | true =>
     cases c4:Aw (f i) with
     | false =>
      rw [By (show Ct 2 f i = false by rw [Ct,show ieq (DL 2 (f i)) 0 = true from c1,c2]; rfl),Ab (AcR L n f (ofNat (Aj (λk=>Ax (f k)) i)) (ofNat (Aj (λk=>Aw (f k)) i)) i j (ofNat_lt hl) (Ap hl) c1 c2 c3 c4),Aq,An hl hn,An (show Aj (λk=>Ax (f k)) i < n by omega) hn,<- Bi (p:=(λk=>Ax (f k))) c3,<- B5 (p:=(λk=>Aw (f k))) c4]
      exact N6 L n f hn d (i+1) (λ_=>.und) q (by omega) (by omega)
     | true =>
      rw [By (show Ct 2 f i = false by rw [Ct,show ieq (DL 2 (f i)) 0 = true from c1,c2]; rfl),Ab (AcS L n f (ofNat (Aj (λk=>Ax (f k)) i)) (ofNat (Aj (λk=>Aw (f k)) i)) i j (ofNat_lt hl) (Ap hl) c1 c2 c3 c4),Aq,An hl hn,An (show Aj (λk=>Ax (f k)) i < n by omega) hn,An (show Aj (λk=>Aw (f k)) i < n by omega) hn,<- Bi (p:=(λk=>Ax (f k))) c3,<- Bi (p:=(λk=>Aw (f k))) c4]
      exact N6 L n f hn d (i+1) (λ_=>.und) q (by omega) (by omega)
theorem Wu (L:LT) (n:Nat) (f:Nat->E6) (x y:Int) (hn:n <= 4611686018427387904):∀ (d i:Nat) (j:Nat->V) (q:Nat),n = i+d->d < q ->
  (AA (CM L) (Kv n f) q (En n f x y i j)).sem = some (match Ba (ES n f) d i with
   | none=>B4 n f x y 0
   | some t=>KL n f x y t)
 | 0,i,j,q+1,h,_=>by
  have:n = i:=by omega
  subst this
  exact Ab (AhM L n f x y n j (A9 (Nat.le_refl _)))
 | d+1,i,j,q+1,h,h2=>by
  have hl:i < n:=by omega
  have e1:=NN hl hn
  have hb:Al (ile 0 (Ae (wr .i64 (Af (ofNat i) 1)) (ofNat n))) (ilt (Ae (wr .i64 (Af (ofNat i) 1)) (ofNat n)) (ofNat n)) = true:=by
   rw [e1]; exact Ap (Nat.mod_lt _ (by omega))
  have e2:toN (ofNat ((i+1) % n)) = (i+1) % n:=rfl
  cases c1:ieq (f i).dst (f ((i+1) % n)).src with
  | false =>
   rw [BQ (show ES n f i = true by rw [ES,c1]; rfl)]
   exact Ab (AhL L n f x y i j (ofNat_lt hl) (Ap hl) (XY hl) hb (by rw [e1,e2]; exact c1))
  | true =>
   rw [By (show ES n f i = false by rw [ES,c1]; rfl),Ab (AhK L n f x y i j (ofNat_lt hl) (Ap hl) (XY hl) hb (by rw [e1,e2]; exact c1)),Aq,An hl hn]
   exact Wu L n f x y hn d (i+1) (λ_=>.und) q (by omega) (by omega)
theorem QK (L:LT) (n:Nat) (f:Nat->E6) (u v:Nat->Int) (hn:n <= 4611686018427387904):∀ (d i:Nat) (j:Nat->V) (q:Nat),n = i+d->d < q ->
  (AA (DC L) (II n f) q (FE n f u v i j)).sem = some (match Ba (AH n v (λi=>isW (f i)) 2) d i with
   | none=>CW n f u v 0
   | some t=>Ih n f u v t)
 | 0,i,j,q+1,h,_=>by
  have:n = i:=by omega
  subst this
  exact Ab (Ahk L n f u v n j (A9 (Nat.le_refl _)))
 | d+1,i,j,q+1,h,h2=>by
  have hl:i < n:=by omega
  have hs:Ao n = true:=decide_eq_true hn
  cases c1:ieq (f i).src 2 with
  | false =>
   rw [By (show AH n v (λi=>isW (f i)) 2 i = false by rw [AH,isW,c1]; rfl),Ab (Ahn L n f u v i j (ofNat_lt hl) (Ap hl) c1),Aq,An hl hn]
   exact QK L n f u v hn d (i+1) (λ_=>.und) q (by omega) (by omega)
  | true =>
   cases c2:ilt 2 (Gp n v (λi=>(bor (AG true) (isW (f i)))) (v i)) with
   | false =>
    rw [By (show AH n v (λi=>isW (f i)) 2 i = false by rw [AH,isW,c1]; exact c2),Ab (Ahm L n f u v i j (ofNat_lt hl) (Ap hl) c1 (show nlt i n = true by simpa [nlt] using hl) (Nat.beq_refl n) hs c2),Aq,An hl hn]
    exact QK L n f u v hn d (i+1) (λ_=>.und) q (by omega) (by omega)
   | true =>
    rw [BQ (show AH n v (λi=>isW (f i)) 2 i = true by rw [AH,isW,c1]; exact c2)]
    exact Ab (Ahl L n f u v i j (ofNat_lt hl) (Ap hl) c1 (show nlt i n = true by simpa [nlt] using hl) (Nat.beq_refl n) hs c2)
theorem Ws (L:LT) (n:Nat) (f:Nat->E6) (u v:Nat->Int) (hn:n <= 4611686018427387904):∀ (d i:Nat) (j:Nat->V) (q:Nat),n = i+d->d < q ->
  (AA (Fr L) (Kt n f) q (I3 n f u v i j)).sem = some (match Ba (AH n u (λ_=>true) 12) d i with
   | none=>GE n f u v 0
   | some t=>GF n f u v t)
 | 0,i,j,q+1,h,_=>by
  have:n = i:=by omega
  subst this
  exact Ab (AgQ L n f u v n j (A9 (Nat.le_refl _)))
 | d+1,i,j,q+1,h,h2=>by
  have hl:i < n:=by omega
  have hs:Ao n = true:=decide_eq_true hn
  cases c2:ilt 12 (Gp n u (λi=>(bor (AG false) (isW (f i)))) (u i)) with
  | false =>
   rw [By (show AH n u (λ_=>true) 12 i = false from c2),Ab (AgS L n f u v i j (ofNat_lt hl) (Ap hl) (show nlt i n = true by simpa [nlt] using hl) (Nat.beq_refl n) hs c2),Aq,An hl hn]
   exact Ws L n f u v hn d (i+1) (λ_=>.und) q (by omega) (by omega)
  | true =>
   rw [BQ (show AH n u (λ_=>true) 12 i = true from c2)]
   exact Ab (AgR L n f u v i j (ofNat_lt hl) (Ap hl) (show nlt i n = true by simpa [nlt] using hl) (Nat.beq_refl n) hs c2)
def Rh (n:Nat) (f:Nat->E6):List (Nat × Lp):=[(0,Kr n f),(2,Kv n f),(4,II n f),(6,Kt n f)]
theorem Acm (n:Nat) (f:Nat->E6) (hF:Be n = true) :
  (Au (Ah tab (AN Gl CO (Rh n f)) Tryz.f47 [iV 2,A5 n f] [])).sem = some (.tup [iV (Jg 2 n f).1,iV (Jg 2 n f).2],[]):=by
 have hL:=AF (Rh n f)
 have hn:=CE (EP hF)
 unfold Jg
 cases hA:ilt (ofNat n) 2 with
 | true=>exact Afx _ n f hA
 | false =>
  cases hB:ilt 16 (ofNat n) with
  | true=>exact Afw _ n f hA hB
  | false =>
   have h0:=λL j=>N6 L n f hn n 0 j (n+1) (by omega) (by omega)
   have h2:=λL j=>Wu L n f (ofNat (Aj (λk=>Ax (f k)) n)) (ofNat (Aj (λk=>Aw (f k)) n)) hn n 0 j (n+1) (by omega) (by omega)
   have h4:=λL j=>QK L n f (pO n f) (pM n f) hn n 0 j (n+1) (by omega) (by omega)
   have h6:=λL j=>Ws L n f (pO n f) (pM n f) hn n 0 j (n+1) (by omega) (by omega)
   show _ = some (V.tup [iV (match Dg 2 n f,ieq (Dg 2 n f).1 0 with | r,false=>r | _,true=>E8 n f).1,iV (match Dg 2 n f,ieq (Dg 2 n f).1 0 with | r,false=>r | _,true=>E8 n f).2],[])
   unfold Dg
   cases c1:Ba (Ct 2 f) n 0 with
   | some t =>
    rw [c1] at h0
    cases c2:ieq (DL 2 (f t)) 0 with
    | false =>
     simp only [c2] at h0 ⊢
     exact A1 (Ar hL hL) _ (Af1 _ _ n f (ofNat (Aj (λk=>Ax (f k)) t)) (ofNat (Aj (λk=>Aw (f k)) t)) t hA hB (Ai (h0 _ _)))
    | true =>
     simp only [c2] at h0 ⊢
     exact A1 (Ar hL hL) _ (Af0 _ _ n f (ofNat (Aj (λk=>Ax (f k)) t)) (ofNat (Aj (λk=>Aw (f k)) t)) t hA hB (Ai (h0 _ _)))
   | none =>
    rw [c1] at h0
    cases c2:Ba (ES n f) n 0 with
    | some t =>
     rw [c2] at h2
     exact A1 (Ar (Ar hL hL) hL) _ (Afz _ _ _ n f (ofNat (Aj (λk=>Ax (f k)) n)) (ofNat (Aj (λk=>Aw (f k)) n)) n t hA hB (Ai (h0 _ _)) (Ai (h2 _ _)))
    | none =>
     rw [c2] at h2
     show _ = some (V.tup [iV (E8 n f).1,iV (E8 n f).2],[])
     unfold E8
     cases c3:ilt (Hy n f) 2 with
     | true=>exact A1 (Ar (Ar hL hL) hL) _ (Afy _ _ _ n f (ofNat (Aj (λk=>Ax (f k)) n)) (ofNat (Aj (λk=>Aw (f k)) n)) n 0 hA hB c3 (Ai (h0 _ _)) (Ai (h2 _ _)))
     | false =>
      cases c4:ilt (Ii n f) 2 with
      | true=>exact A1 (Ar (Ar hL hL) hL) _ (Afv _ _ _ n f (ofNat (Aj (λk=>Ax (f k)) n)) (ofNat (Aj (λk=>Aw (f k)) n)) n 0 hA hB c3 c4 (Ai (h0 _ _)) (Ai (h2 _ _)))
      | false =>
       show _ = some (V.tup [iV (Ij n f).1,iV (Ij n f).2],[])
       unfold Ij crR
       cases c5:Ba (AH n (Ay (λk=>Aw (f k)) n) (λi=>isW (f i)) 2) n 0 with
       | some t =>
        rw [show (Ba (AH n (pM n f) (λi=>isW (f i)) 2) n 0) = some t from c5] at h4
        exact A1 (Ar (Ar (Ar hL hL) hL) hL) _ (Afu _ _ _ _ n f (ofNat (Aj (λk=>Ax (f k)) n)) (ofNat (Aj (λk=>Aw (f k)) n)) n 0 t hA hB c3 c4 hF (Ai (h0 _ _)) (Ai (h2 _ _)) (Ai (h4 _ _)))
       | none =>
        rw [show (Ba (AH n (pM n f) (λi=>isW (f i)) 2) n 0) = none from c5] at h4
        cases c6:Ba (AH n (Ay (λk=>Ax (f k)) n) (λ_=>true) 12) n 0 with
        | some t =>
         rw [show (Ba (AH n (pO n f) (λ_=>true) 12) n 0) = some t from c6] at h6
         exact A1 (Ar (Ar (Ar (Ar hL hL) hL) hL) hL) _ (Af2 _ _ _ _ _ n f (ofNat (Aj (λk=>Ax (f k)) n)) (ofNat (Aj (λk=>Aw (f k)) n)) n 0 0 t hA hB c3 c4 hF (Ai (h0 _ _)) (Ai (h2 _ _)) (Ai (h4 _ _)) (Ai (h6 _ _)))
        | none =>
         rw [show (Ba (AH n (pO n f) (λ_=>true) 12) n 0) = none from c6] at h6
         exact A1 (Ar (Ar (Ar (Ar hL hL) hL) hL) hL) _ (Aft _ _ _ _ _ n f (ofNat (Aj (λk=>Ax (f k)) n)) (ofNat (Aj (λk=>Aw (f k)) n)) n 0 0 0 hA hB c3 c4 hF (Ai (h0 _ _)) (Ai (h2 _ _)) (Ai (h4 _ _)) (Ai (h6 _ _)))
theorem Ajn (L:LT) (a:Int) (n:Nat) (f:Nat->E6) (h0:ieq a 1 = false) (h1:ieq a 2 = false):(Au (Ah tab ⟨Ak CO,L,Gl⟩ Tryz.f47 [iV a,A5 n f] [])).sem = some ((.tup [(iV 1),(iV 0)]),[]):=by
 exact Aa (ks:=[kN (kn h0),kN (kn h0),kN (kn h0),kN (kn h1)]) (by kernel_rfl)
theorem p49:A6 Tryz.prog Gl 47 Y3:=by
 refine Av AI mixed Tryz.func47 (by kernel_rfl) (by kernel_rfl) λvs v h' h=>?_
 unfold Y3 at h
 split at h
 ·rename_i a u
  obtain ⟨n,f,ha,h1⟩:=Cc h
  obtain ⟨hn,hq⟩:=Ad h1
  have:=Ac hq
  simp only [Prod.mk.injEq] at this
  obtain ⟨rfl,rfl⟩:=this
  cases ca:ieq a 1 with
  | true =>
   have h9:=CC ca
   subst h9
   have hx:=AK Qv (Rg n f)
   exact ⟨_,AN Gl CO (Rg n f),_,VQ ha,rfl,hx.1,hx.2,Acl n f hn,A0.refl _⟩
  | false =>
   cases cb:ieq a 2 with
   | true =>
    have h9:=CC cb
    subst h9
    have hx:=AK Qv (Rh n f)
    exact ⟨_,AN Gl CO (Rh n f),_,VQ ha,rfl,hx.1,hx.2,Acm n f hn,A0.refl _⟩
   | false =>
    have hx:=AK Qv []
    refine ⟨_,AN Gl CO [],_,VQ ha,rfl,hx.1,hx.2,?_,A0.refl _⟩
    unfold Pb
    rw [ca,cb]
    exact Ajn _ a n f ca cb
 ·cases h
noncomputable def Fu:List (Nat × (List V->T (V × List Blk))):=(28,Ai1) :: (29,VJ) :: (34,UM) :: (33,VI) :: []
theorem Qw:A8 Tryz.prog Gl Fu:=.cons p86 <| .cons p87 <| .cons p92 <| .cons p91 .nil
def KQ (a:Int) (n:Nat) (f:Nat->E6):Int:=(Dg a n f).1
def Al2 (a:Int) (n:Nat) (f:Nat->E6):Int:=(Dg a n f).2
def crI (n:Nat) (l:Nat->Int) (c:Nat->Bool) (q:Int):Int:=(crR n l c q).1
def crB (n:Nat) (l:Nat->Int) (c:Nat->Bool) (q:Int):Bool:=(crR n l c q).2
theorem Dq (p:Nat->Bool) (n:Nat) (hn:n <= 4611686018427387904):okP n (Ay p n) = true:=A4.2 λi hi=>by
 unfold Ay
 cases decide (i < n) with
 | false=>rfl
 | true =>
  cases decide (Aj p i = Aj p n) with
  | true=>rfl
  | false =>
   have:=AV p i
   exact R1 (by omega)
section
variable (L:LT) (n:Nat) (f:Nat->E6)
include L n f
theorem Af6 (h0:ilt (ofNat n) 2 = true):(Au (Ah tab ⟨Ak Fu,L,Gl⟩ Tryz.f11 [iV 1,A5 n f] [])).sem = some ((.tup [(iV 40),(iV 0)]),[]):=by
 exact Aa (ks:=[kN (kI 1),kN (kI 1),kN (kI 1),kF,kn h0,kn h0,kn h0,kn h0,kT]) (by kernel_rfl)
theorem Af5 (h0:ilt (ofNat n) 2 = false) (h1:ilt 16 (ofNat n) = true):(Au (Ah tab ⟨Ak Fu,L,Gl⟩ Tryz.f11 [iV 1,A5 n f] [])).sem = some ((.tup [(iV 40),(iV 0)]),[]):=by
 exact Aa (ks:=[kN (kI 1),kN (kI 1),kN (kI 1),kF,kn h0,kn h0,kn h0,kn h0,kn h1]) (by kernel_rfl)
theorem Af9 (h0:ilt (ofNat n) 2 = false) (h1:ilt 16 (ofNat n) = false) (h2:Be n = true) (h3:ieq (KQ 1 n f) 0 = false):(Au (Ah tab ⟨Ak Fu,L,Gl⟩ Tryz.f11 [iV 1,A5 n f] [])).sem = some ((.tup [(iV (KQ 1 n f)),(iV (Al2 1 n f))]),[]):=by
 exact Aa (ks:=[kN (kI 1),kN (kI 1),kN (kI 1),kF,kn h0,kn h0,kn h0,kn h0,kn h1,kL n,kn h2,kN (kn h3)]) (by kernel_rfl)
theorem Af7 (h0:ilt (ofNat n) 2 = false) (h1:ilt 16 (ofNat n) = false) (h2:Be n = true) (h3:ieq (KQ 1 n f) 0 = true) (h4:Ao n = true) (h5:ilt (Hy n f) 2 = true):(Au (Ah tab ⟨Ak Fu,L,Gl⟩ Tryz.f11 [iV 1,A5 n f] [])).sem = some ((.tup [(iV 42),(iV 0)]),[]):=by
 exact Aa (ks:=[kN (kI 1),kN (kI 1),kN (kI 1),kF,kn h0,kn h0,kn h0,kn h0,kn h1,kL n,kn h2,kN (kn h3),kL n,kn h4,kn h5]) (by kernel_rfl)
theorem Af8 (h0:ilt (ofNat n) 2 = false) (h1:ilt 16 (ofNat n) = false) (h2:Be n = true) (h3:ieq (KQ 1 n f) 0 = true) (h4:Ao n = true) (h5:ilt (Hy n f) 2 = false) (h6:ilt (Ii n f) 2 = true):(Au (Ah tab ⟨Ak Fu,L,Gl⟩ Tryz.f11 [iV 1,A5 n f] [])).sem = some ((.tup [(iV 43),(iV 0)]),[]):=by
 exact Aa (ks:=[kN (kI 1),kN (kI 1),kN (kI 1),kF,kn h0,kn h0,kn h0,kn h0,kn h1,kL n,kn h2,kN (kn h3),kL n,kn h4,kn h5,kL n,kn h4,kn h6]) (by kernel_rfl)
theorem Af4 (h0:ilt (ofNat n) 2 = false) (h1:ilt 16 (ofNat n) = false) (h2:Be n = true) (h3:ieq (KQ 1 n f) 0 = true) (h4:Ao n = true) (h5:ilt (Hy n f) 2 = false) (h6:ilt (Ii n f) 2 = false) (h7:C5 8 (ofNat n) (ofNat n) = true) (h8:AB n n = true) (h9:okP n (Ay (λk=>(Aw (f k))) n) = true) (h10:crB n (Ay (λk=>(Aw (f k))) n) (λi=>(isW (f i))) 2 = true):(Au (Ah tab ⟨Ak Fu,L,Gl⟩ Tryz.f11 [iV 1,A5 n f] [])).sem = some ((.tup [(iV 44),(iV (crI n (Ay (λk=>(Aw (f k))) n) (λi=>(isW (f i))) 2))]),[]):=by
 exact Aa (ks:=[kN (kI 1),kN (kI 1),kN (kI 1),kF,kn h0,kn h0,kn h0,kn h0,kn h1,kL n,kn h2,kN (kn h3),kL n,kn h4,kn h5,kL n,kn h4,kn h6,kL n,kn h7,kL n,kL n,kn h8,kn h4,kn h9,kn h10]) (by kernel_rfl)
theorem AfA (h0:ilt (ofNat n) 2 = false) (h1:ilt 16 (ofNat n) = false) (h2:Be n = true) (h3:ieq (KQ 1 n f) 0 = true) (h4:Ao n = true) (h5:ilt (Hy n f) 2 = false) (h6:ilt (Ii n f) 2 = false) (h7:C5 8 (ofNat n) (ofNat n) = true) (h8:AB n n = true) (h9:okP n (Ay (λk=>(Aw (f k))) n) = true) (h10:crB n (Ay (λk=>(Aw (f k))) n) (λi=>(isW (f i))) 2 = false) (h11:okP n (Ay (λk=>(Ax (f k))) n) = true) (h12:crB n (Ay (λk=>(Ax (f k))) n) (λ_=>true) 12 = true):(Au (Ah tab ⟨Ak Fu,L,Gl⟩ Tryz.f11 [iV 1,A5 n f] [])).sem = some ((.tup [(iV 45),(iV (crI n (Ay (λk=>(Ax (f k))) n) (λ_=>true) 12))]),[]):=by
 exact Aa (ks:=[kN (kI 1),kN (kI 1),kN (kI 1),kF,kn h0,kn h0,kn h0,kn h0,kn h1,kL n,kn h2,kN (kn h3),kL n,kn h4,kn h5,kL n,kn h4,kn h6,kL n,kn h7,kL n,kL n,kn h8,kn h4,kn h9,kn h10,kL n,kn h7,kL n,kn h4,kn h11,kn h12]) (by kernel_rfl)
theorem Af3 (h0:ilt (ofNat n) 2 = false) (h1:ilt 16 (ofNat n) = false) (h2:Be n = true) (h3:ieq (KQ 1 n f) 0 = true) (h4:Ao n = true) (h5:ilt (Hy n f) 2 = false) (h6:ilt (Ii n f) 2 = false) (h7:C5 8 (ofNat n) (ofNat n) = true) (h8:AB n n = true) (h9:okP n (Ay (λk=>(Aw (f k))) n) = true) (h10:crB n (Ay (λk=>(Aw (f k))) n) (λi=>(isW (f i))) 2 = false) (h11:okP n (Ay (λk=>(Ax (f k))) n) = true) (h12:crB n (Ay (λk=>(Ax (f k))) n) (λ_=>true) 12 = false):(Au (Ah tab ⟨Ak Fu,L,Gl⟩ Tryz.f11 [iV 1,A5 n f] [])).sem = some ((.tup [(iV 0),(iV 0)]),[]):=by
 exact Aa (ks:=[kN (kI 1),kN (kI 1),kN (kI 1),kF,kn h0,kn h0,kn h0,kn h0,kn h1,kL n,kn h2,kN (kn h3),kL n,kn h4,kn h5,kL n,kn h4,kn h6,kL n,kn h7,kL n,kL n,kn h8,kn h4,kn h9,kn h10,kL n,kn h7,kL n,kn h4,kn h11,kn h12]) (by kernel_rfl)
theorem AfE (h0:ilt (ofNat n) 2 = true):(Au (Ah tab ⟨Ak Fu,L,Gl⟩ Tryz.f11 [iV 2,A5 n f] [])).sem = some ((.tup [(iV 40),(iV 0)]),[]):=by
 exact Aa (ks:=[kN (⟨ieq 2 1,false,rfl⟩),kN (⟨ieq 2 1,false,rfl⟩),kN (⟨ieq 2 1,false,rfl⟩),kN (kI 2),kn h0,kn h0,kn h0,kn h0,kT]) (by kernel_rfl)
theorem AfD (h0:ilt (ofNat n) 2 = false) (h1:ilt 16 (ofNat n) = true):(Au (Ah tab ⟨Ak Fu,L,Gl⟩ Tryz.f11 [iV 2,A5 n f] [])).sem = some ((.tup [(iV 40),(iV 0)]),[]):=by
 exact Aa (ks:=[kN (⟨ieq 2 1,false,rfl⟩),kN (⟨ieq 2 1,false,rfl⟩),kN (⟨ieq 2 1,false,rfl⟩),kN (kI 2),kn h0,kn h0,kn h0,kn h0,kn h1]) (by kernel_rfl)
theorem AfH (h0:ilt (ofNat n) 2 = false) (h1:ilt 16 (ofNat n) = false) (h2:Be n = true) (h3:ieq (KQ 2 n f) 0 = false):(Au (Ah tab ⟨Ak Fu,L,Gl⟩ Tryz.f11 [iV 2,A5 n f] [])).sem = some ((.tup [(iV (KQ 2 n f)),(iV (Al2 2 n f))]),[]):=by
 exact Aa (ks:=[kN (⟨ieq 2 1,false,rfl⟩),kN (⟨ieq 2 1,false,rfl⟩),kN (⟨ieq 2 1,false,rfl⟩),kN (kI 2),kn h0,kn h0,kn h0,kn h0,kn h1,kL n,kn h2,kN (kn h3)]) (by kernel_rfl)
theorem AfF (h0:ilt (ofNat n) 2 = false) (h1:ilt 16 (ofNat n) = false) (h2:Be n = true) (h3:ieq (KQ 2 n f) 0 = true) (h4:Ao n = true) (h5:ilt (Hy n f) 2 = true):(Au (Ah tab ⟨Ak Fu,L,Gl⟩ Tryz.f11 [iV 2,A5 n f] [])).sem = some ((.tup [(iV 42),(iV 0)]),[]):=by
 exact Aa (ks:=[kN (⟨ieq 2 1,false,rfl⟩),kN (⟨ieq 2 1,false,rfl⟩),kN (⟨ieq 2 1,false,rfl⟩),kN (kI 2),kn h0,kn h0,kn h0,kn h0,kn h1,kL n,kn h2,kN (kn h3),kL n,kn h4,kn h5]) (by kernel_rfl)
theorem AfG (h0:ilt (ofNat n) 2 = false) (h1:ilt 16 (ofNat n) = false) (h2:Be n = true) (h3:ieq (KQ 2 n f) 0 = true) (h4:Ao n = true) (h5:ilt (Hy n f) 2 = false) (h6:ilt (Ii n f) 2 = true):(Au (Ah tab ⟨Ak Fu,L,Gl⟩ Tryz.f11 [iV 2,A5 n f] [])).sem = some ((.tup [(iV 43),(iV 0)]),[]):=by
 exact Aa (ks:=[kN (⟨ieq 2 1,false,rfl⟩),kN (⟨ieq 2 1,false,rfl⟩),kN (⟨ieq 2 1,false,rfl⟩),kN (kI 2),kn h0,kn h0,kn h0,kn h0,kn h1,kL n,kn h2,kN (kn h3),kL n,kn h4,kn h5,kL n,kn h4,kn h6]) (by kernel_rfl)
theorem AfC (h0:ilt (ofNat n) 2 = false) (h1:ilt 16 (ofNat n) = false) (h2:Be n = true) (h3:ieq (KQ 2 n f) 0 = true) (h4:Ao n = true) (h5:ilt (Hy n f) 2 = false) (h6:ilt (Ii n f) 2 = false) (h7:C5 8 (ofNat n) (ofNat n) = true) (h8:AB n n = true) (h9:okP n (Ay (λk=>(Aw (f k))) n) = true) (h10:crB n (Ay (λk=>(Aw (f k))) n) (λi=>(isW (f i))) 2 = true):(Au (Ah tab ⟨Ak Fu,L,Gl⟩ Tryz.f11 [iV 2,A5 n f] [])).sem = some ((.tup [(iV 44),(iV (crI n (Ay (λk=>(Aw (f k))) n) (λi=>(isW (f i))) 2))]),[]):=by
 exact Aa (ks:=[kN (⟨ieq 2 1,false,rfl⟩),kN (⟨ieq 2 1,false,rfl⟩),kN (⟨ieq 2 1,false,rfl⟩),kN (kI 2),kn h0,kn h0,kn h0,kn h0,kn h1,kL n,kn h2,kN (kn h3),kL n,kn h4,kn h5,kL n,kn h4,kn h6,kL n,kn h7,kL n,kL n,kn h8,kn h4,kn h9,kn h10]) (by kernel_rfl)
theorem AfI (h0:ilt (ofNat n) 2 = false) (h1:ilt 16 (ofNat n) = false) (h2:Be n = true) (h3:ieq (KQ 2 n f) 0 = true) (h4:Ao n = true) (h5:ilt (Hy n f) 2 = false) (h6:ilt (Ii n f) 2 = false) (h7:C5 8 (ofNat n) (ofNat n) = true) (h8:AB n n = true) (h9:okP n (Ay (λk=>(Aw (f k))) n) = true) (h10:crB n (Ay (λk=>(Aw (f k))) n) (λi=>(isW (f i))) 2 = false) (h11:okP n (Ay (λk=>(Ax (f k))) n) = true) (h12:crB n (Ay (λk=>(Ax (f k))) n) (λ_=>true) 12 = true):(Au (Ah tab ⟨Ak Fu,L,Gl⟩ Tryz.f11 [iV 2,A5 n f] [])).sem = some ((.tup [(iV 45),(iV (crI n (Ay (λk=>(Ax (f k))) n) (λ_=>true) 12))]),[]):=by
 exact Aa (ks:=[kN (⟨ieq 2 1,false,rfl⟩),kN (⟨ieq 2 1,false,rfl⟩),kN (⟨ieq 2 1,false,rfl⟩),kN (kI 2),kn h0,kn h0,kn h0,kn h0,kn h1,kL n,kn h2,kN (kn h3),kL n,kn h4,kn h5,kL n,kn h4,kn h6,kL n,kn h7,kL n,kL n,kn h8,kn h4,kn h9,kn h10,kL n,kn h7,kL n,kn h4,kn h11,kn h12]) (by kernel_rfl)
theorem AfB (h0:ilt (ofNat n) 2 = false) (h1:ilt 16 (ofNat n) = false) (h2:Be n = true) (h3:ieq (KQ 2 n f) 0 = true) (h4:Ao n = true) (h5:ilt (Hy n f) 2 = false) (h6:ilt (Ii n f) 2 = false) (h7:C5 8 (ofNat n) (ofNat n) = true) (h8:AB n n = true) (h9:okP n (Ay (λk=>(Aw (f k))) n) = true) (h10:crB n (Ay (λk=>(Aw (f k))) n) (λi=>(isW (f i))) 2 = false) (h11:okP n (Ay (λk=>(Ax (f k))) n) = true) (h12:crB n (Ay (λk=>(Ax (f k))) n) (λ_=>true) 12 = false):(Au (Ah tab ⟨Ak Fu,L,Gl⟩ Tryz.f11 [iV 2,A5 n f] [])).sem = some ((.tup [(iV 0),(iV 0)]),[]):=by
 exact Aa (ks:=[kN (⟨ieq 2 1,false,rfl⟩),kN (⟨ieq 2 1,false,rfl⟩),kN (⟨ieq 2 1,false,rfl⟩),kN (kI 2),kn h0,kn h0,kn h0,kn h0,kn h1,kL n,kn h2,kN (kn h3),kL n,kn h4,kn h5,kL n,kn h4,kn h6,kL n,kn h7,kL n,kL n,kn h8,kn h4,kn h9,kn h10,kL n,kn h7,kL n,kn h4,kn h11,kn h12]) (by kernel_rfl)
end
theorem Ajo (L:LT) (a:Int) (n:Nat) (f:Nat->E6) (h0:ieq a 1 = false) (h1:ieq a 2 = false):(Au (Ah tab ⟨Ak Fu,L,Gl⟩ Tryz.f11 [iV a,A5 n f] [])).sem = some ((.tup [(iV 1),(iV 0)]),[]):=by
 exact Aa (ks:=[kN (kn h0),kN (kn h0),kN (kn h0),kN (kn h1)]) (by kernel_rfl)
theorem Acn (n:Nat) (f:Nat->E6) (hF:Be n = true) :
  (Au (Ah tab (AN Gl Fu []) Tryz.f11 [iV 1,A5 n f] [])).sem = some (.tup [iV (Jg 1 n f).1,iV (Jg 1 n f).2],[]):=by
 have hn:=CE (EP hF)
 have hs:Ao n = true:=decide_eq_true hn
 have hk:C5 8 (ofNat n) (ofNat n) = true:=by
  have:=Hs hF
  simp only [C5,Bool.and_eq_true,decide_eq_true_eq,Int.ofNat_eq_natCast]
  omega
 unfold Jg
 cases hA:ilt (ofNat n) 2 with
 | true=>exact Af6 _ n f hA
 | false =>
  cases hB:ilt 16 (ofNat n) with
  | true=>exact Af5 _ n f hA hB
  | false =>
   show _ = some (V.tup [iV (match Dg 1 n f,ieq (Dg 1 n f).1 0 with | r,false=>r | _,true=>E8 n f).1,iV (match Dg 1 n f,ieq (Dg 1 n f).1 0 with | r,false=>r | _,true=>E8 n f).2],[])
   cases c1:ieq (Dg 1 n f).1 0 with
   | false=>exact Af9 _ n f hA hB hF c1
   | true =>
    show _ = some (V.tup [iV (E8 n f).1,iV (E8 n f).2],[])
    unfold E8
    cases c3:ilt (Hy n f) 2 with
    | true=>exact Af7 _ n f hA hB hF c1 hs c3
    | false =>
     cases c4:ilt (Ii n f) 2 with
     | true=>exact Af8 _ n f hA hB hF c1 hs c3 c4
     | false =>
      show _ = some (V.tup [iV (Ij n f).1,iV (Ij n f).2],[])
      unfold Ij
      cases c5:crB n (Ay (λk=>Aw (f k)) n) (λi=>isW (f i)) 2 with
      | true =>
       rw [show crR n (Ay (λk=>Aw (f k)) n) (λi=>isW (f i)) 2 = (crI n (Ay (λk=>Aw (f k)) n) (λi=>isW (f i)) 2,true) from Prod.ext rfl c5]
       exact Af4 _ n f hA hB hF c1 hs c3 c4 hk (Nat.beq_refl n) (Dq _ n hn) c5
      | false =>
       rw [show crR n (Ay (λk=>Aw (f k)) n) (λi=>isW (f i)) 2 = (crI n (Ay (λk=>Aw (f k)) n) (λi=>isW (f i)) 2,false) from Prod.ext rfl c5]
       cases c6:crB n (Ay (λk=>Ax (f k)) n) (λ_=>true) 12 with
       | true =>
        rw [show crR n (Ay (λk=>Ax (f k)) n) (λ_=>true) 12 = (crI n (Ay (λk=>Ax (f k)) n) (λ_=>true) 12,true) from Prod.ext rfl c6]
        exact AfA _ n f hA hB hF c1 hs c3 c4 hk (Nat.beq_refl n) (Dq _ n hn) c5 (Dq _ n hn) c6
       | false =>
        rw [show crR n (Ay (λk=>Ax (f k)) n) (λ_=>true) 12 = (crI n (Ay (λk=>Ax (f k)) n) (λ_=>true) 12,false) from Prod.ext rfl c6]
        exact Af3 _ n f hA hB hF c1 hs c3 c4 hk (Nat.beq_refl n) (Dq _ n hn) c5 (Dq _ n hn) c6
theorem Aco (n:Nat) (f:Nat->E6) (hF:Be n = true) :
  (Au (Ah tab (AN Gl Fu []) Tryz.f11 [iV 2,A5 n f] [])).sem = some (.tup [iV (Jg 2 n f).1,iV (Jg 2 n f).2],[]):=by
 have hn:=CE (EP hF)
 have hs:Ao n = true:=decide_eq_true hn
 have hk:C5 8 (ofNat n) (ofNat n) = true:=by
  have:=Hs hF
  simp only [C5,Bool.and_eq_true,decide_eq_true_eq,Int.ofNat_eq_natCast]
  omega
 unfold Jg
 cases hA:ilt (ofNat n) 2 with
 | true=>exact AfE _ n f hA
 | false =>
  cases hB:ilt 16 (ofNat n) with
  | true=>exact AfD _ n f hA hB
  | false =>
   show _ = some (V.tup [iV (match Dg 2 n f,ieq (Dg 2 n f).1 0 with | r,false=>r | _,true=>E8 n f).1,iV (match Dg 2 n f,ieq (Dg 2 n f).1 0 with | r,false=>r | _,true=>E8 n f).2],[])
   cases c1:ieq (Dg 2 n f).1 0 with
   | false=>exact AfH _ n f hA hB hF c1
   | true =>
    show _ = some (V.tup [iV (E8 n f).1,iV (E8 n f).2],[])
    unfold E8
    cases c3:ilt (Hy n f) 2 with
    | true=>exact AfF _ n f hA hB hF c1 hs c3
    | false =>
     cases c4:ilt (Ii n f) 2 with
     | true=>exact AfG _ n f hA hB hF c1 hs c3 c4
     | false =>
      show _ = some (V.tup [iV (Ij n f).1,iV (Ij n f).2],[])
      unfold Ij
      cases c5:crB n (Ay (λk=>Aw (f k)) n) (λi=>isW (f i)) 2 with
      | true =>
       rw [show crR n (Ay (λk=>Aw (f k)) n) (λi=>isW (f i)) 2 = (crI n (Ay (λk=>Aw (f k)) n) (λi=>isW (f i)) 2,true) from Prod.ext rfl c5]
       exact AfC _ n f hA hB hF c1 hs c3 c4 hk (Nat.beq_refl n) (Dq _ n hn) c5
      | false =>
       rw [show crR n (Ay (λk=>Aw (f k)) n) (λi=>isW (f i)) 2 = (crI n (Ay (λk=>Aw (f k)) n) (λi=>isW (f i)) 2,false) from Prod.ext rfl c5]
       cases c6:crB n (Ay (λk=>Ax (f k)) n) (λ_=>true) 12 with
       | true =>
        rw [show crR n (Ay (λk=>Ax (f k)) n) (λ_=>true) 12 = (crI n (Ay (λk=>Ax (f k)) n) (λ_=>true) 12,true) from Prod.ext rfl c6]
        exact AfI _ n f hA hB hF c1 hs c3 c4 hk (Nat.beq_refl n) (Dq _ n hn) c5 (Dq _ n hn) c6
       | false =>
        rw [show crR n (Ay (λk=>Ax (f k)) n) (λ_=>true) 12 = (crI n (Ay (λk=>Ax (f k)) n) (λ_=>true) 12,false) from Prod.ext rfl c6]
        exact AfB _ n f hA hB hF c1 hs c3 c4 hk (Nat.beq_refl n) (Dq _ n hn) c5 (Dq _ n hn) c6
theorem p48:A6 Tryz.prog Gl 11 Y3:=by
 refine Av AI mixed Tryz.func11 (by kernel_rfl) (by kernel_rfl) λvs v h' h=>?_
 unfold Y3 at h
 split at h
 ·rename_i a u
  obtain ⟨n,f,ha,h1⟩:=Cc h
  obtain ⟨hn,hq⟩:=Ad h1
  have:=Ac hq
  simp only [Prod.mk.injEq] at this
  obtain ⟨rfl,rfl⟩:=this
  cases ca:ieq a 1 with
  | true =>
   have h9:=CC ca
   subst h9
   have hx:=AK Qw []
   exact ⟨_,AN Gl Fu [],_,VQ ha,rfl,hx.1,hx.2,Acn n f hn,A0.refl _⟩
  | false =>
   cases cb:ieq a 2 with
   | true =>
    have h9:=CC cb
    subst h9
    have hx:=AK Qw []
    exact ⟨_,AN Gl Fu [],_,VQ ha,rfl,hx.1,hx.2,Aco n f hn,A0.refl _⟩
   | false =>
    have hx:=AK Qw []
    refine ⟨_,AN Gl Fu [],_,VQ ha,rfl,hx.1,hx.2,?_,A0.refl _⟩
    unfold Pb
    rw [ca,cb]
    exact Ajo _ a n f ca cb
 ·cases h
end Go.Proofs.YthlojajaenfidaaGreatDoor.Ed
