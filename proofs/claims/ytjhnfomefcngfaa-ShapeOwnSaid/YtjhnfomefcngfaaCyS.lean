/-
  Check, the program's and the document's: one answer. No conditions.
-/
import Derived.Test.YtjhnfomefcngfaaCyR
namespace Go.Proofs.Ytjhnfomefcngfaa.Ed
open Go.Sy
open Int (ofNat)
abbrev U:V:=.und
noncomputable def CT:List (Nat × (List V->T (V × List Blk))):=(64,BK fun e=>iV (AM e)) :: (65,ap2 gI toE fun a e=>out (RS a e)) :: (22,BK fun e=>bV (Az e)) :: (23,BK fun e=>bV (Au e)) :: (66,Qe) :: (67,Qd) :: (68,ZD) :: []
theorem PF:AF Try.prog Gl CT:=.cons p29 <| .cons p33 <| .cons p60 <| .cons p61 <| .cons p94 <| .cons p95 <| .cons p96 .nil
def DZ (n:Nat) (f:Nat->E6):Int:=ofNat (Aj (fun k=>Az (f k)) n)
def EV (n:Nat) (f:Nat->E6):Int:=ofNat (Aj (fun k=>Au (f k)) n)
def Is (n:Nat) (f:Nat->E6):Int × Int :=
  match crR n (A0 (fun k=>Au (f k)) n) (fun i=>isW (f i)) 2 with
  | (i,true)=>(44,i)
  | (_,false)=>match crR n (A0 (fun k=>Az (f k)) n) (fun _=>true) 12 with
    | (i,true)=>(45,i)
    | (_,false)=>(0,0)
def EG (n:Nat) (f:Nat->E6):Int × Int :=
  match ilt (DZ n f) 2,ilt (EV n f) 2 with
  | true,_=>(42,0)
  | false,true=>(43,0)
  | false,false=>Is n f
def Jr (a:Int) (n:Nat) (f:Nat->E6):Int × Int :=
  match ilt (ofNat n) 2,ilt 16 (ofNat n) with
  | true,_=>(40,0)
  | false,true=>(40,0)
  | false,false=>match Dn a n f,ieq (Dn a n f).1 0 with
    | r,false=>r
    | _,true=>EG n f
def OF (a:Int) (n:Nat) (f:Nat->E6):Int × Int :=
  match ieq a 1,ieq a 2 with
  | false,false=>(1,0)
  | _,_=>Jr a n f
def WT:List V->T (V × List Blk)
  | [.val (.int .i64 a),v]=>apL v fun n f=>.br (AL n) (out (.tup [iV (OF a n f).1,iV (OF a n f).2])) .fail
  | _=>.fail
theorem VQ {a:Int} {n:Nat} {f:Nat->E6} (h:ieq a 1 = true ∨ ieq a 2 = true):OF a n f = Jr a n f:=by
  unfold OF
  rcases h with h | h
  · rw [h]
  · rw [h]
    cases ieq a 1 <;> rfl
def Ki (n:Nat) (_:Nat->E6):Lp:=⟨(bmK 133 0 [0,1,4,5,6,7,8,9]),0,bmK 133 0 [1,4,5,6,7,8],0,n+1⟩
def CO (n:Nat) (f:Nat->E6) (x y:Int) (i:Nat) (j:Nat->V):St:=⟨(jsV 133 0 j [(0,iV 1),(1,.sl 6 n (fun i=>eV (f i))),(4,iV 0),(5,iV 0),(6,nV n),(7,iV x),(8,iV y),(9,nV i)]),[]⟩
def Ci (n:Nat) (f:Nat->E6) (x y:Int) (_:Nat):Ex × St:=(.ex 0,⟨(jsV 133 0 (fun _=>.und) [(1,.sl 6 n (fun i=>eV (f i))),(4,iV 0),(5,iV 0),(6,nV n),(7,iV x),(8,iV y)]),[]⟩)
def QB (n:Nat) (f:Nat->E6) (x y:Int) (i:Nat):Ex × St:=(.rt,⟨(jsV 133 0 (fun _=>.und) [(1,.sl 6 n (fun i=>eV (f i))),(4,iV 30),(5,nV i),(6,nV n),(7,iV x),(8,iV y)]),[]⟩)
def QA (n:Nat) (f:Nat->E6) (x y:Int) (i:Nat):Ex × St:=(.rt,⟨(jsV 133 0 (fun _=>.und) [(1,.sl 6 n (fun i=>eV (f i))),(4,iV 5),(5,nV i),(6,nV n),(7,iV x),(8,iV y)]),[]⟩)
noncomputable def B7 (L:LT):St->T (Ex × St):=fun st=>A9 tab ⟨Ao CT,L,Gl⟩ (Av Try.f19 0) 0 st
section
variable (L:LT) (n:Nat) (f:Nat->E6) (x y:Int) (i:Nat)  (j:Nat->V)
include L n f x y i j
theorem Af3 (h0:ilt (ofNat i) (ofNat n) = false):Ai (B7 L) (Ki n f) (CO n f x y i j) = some ((.ex 0),⟨(jsV 133 0 (fun _=>.und) [(1,(.sl 6 n (fun i=>eV (f i)))),(4,(iV 0)),(5,(iV 0)),(6,(nV n)),(7,(iV x)),(8,(iV y))]),[]⟩):=Aa [false] [ilt (ofNat i) (ofNat n)] (by kernel_rfl) (by simp only [h0] <;> rfl)
theorem Af2 (h0:ilt (ofNat i) (ofNat n) = true) (h1:Af (ile 0 (ofNat i)) (ilt (ofNat i) (ofNat n)) = true) (h2:ieq (AM (f i)) 0 = false):Ai (B7 L) (Ki n f) (CO n f x y i j) = some (.rt,⟨(jsV 133 0 (fun _=>.und) [(1,(.sl 6 n (fun i=>eV (f i)))),(4,(iV 30)),(5,(nV i)),(6,(nV n)),(7,(iV x)),(8,(iV y))]),[]⟩):=Aa [true,true,true] [ilt (ofNat i) (ofNat n),Af (ile 0 (ofNat i)) (ilt (ofNat i) (ofNat n)),Am (ieq (AM (f i)) 0)] (by kernel_rfl) (by simp only [h1] <;> simp only [h0,h2] <;> rfl)
theorem Af1 (h0:ilt (ofNat i) (ofNat n) = true) (h1:Af (ile 0 (ofNat i)) (ilt (ofNat i) (ofNat n)) = true) (h2:ieq (AM (f i)) 0 = true) (h3:D7 1 (f i) = false):Ai (B7 L) (Ki n f) (CO n f x y i j) = some (.rt,⟨(jsV 133 0 (fun _=>.und) [(1,(.sl 6 n (fun i=>eV (f i)))),(4,(iV 5)),(5,(nV i)),(6,(nV n)),(7,(iV x)),(8,(iV y))]),[]⟩):=Aa [true,true,false,true,true] ((fun c0=>[ilt (ofNat i) (ofNat n),c0,Am (ieq (AM (f i)) 0),c0,Am (D7 1 (f i))]) (Af (ile 0 (ofNat i)) (ilt (ofNat i) (ofNat n)))) (by kernel_rfl) (by simp only [h1] <;> simp only [*] <;> rfl)
theorem AaS (h0:ilt (ofNat i) (ofNat n) = true) (h1:Af (ile 0 (ofNat i)) (ilt (ofNat i) (ofNat n)) = true) (h2:ieq (AM (f i)) 0 = true) (h3:D7 1 (f i) = true) (h4:Az (f i) = false) (h5:Au (f i) = false):Ai (B7 L) (Ki n f) (CO n f x y i j) = some (.nm,⟨(jsV 133 0 (fun _=>.und) [(0,(iV 1)),(1,(.sl 6 n (fun i=>eV (f i)))),(4,(iV 0)),(5,(iV 0)),(6,(nV n)),(7,(iV x)),(8,(iV y)),(9,(iV (wr .i64 (Ae (ofNat i) 1))))]),[]⟩):=Aa (bbK 9 171) ((fun c0=>[ilt (ofNat i) (ofNat n),c0,Am (ieq (AM (f i)) 0),c0,Am (D7 1 (f i)),c0,Az (f i),c0,Au (f i)]) (Af (ile 0 (ofNat i)) (ilt (ofNat i) (ofNat n)))) (by kernel_rfl) (by simp only [h1] <;> simp only [*] <;> rfl)
theorem AaT (h0:ilt (ofNat i) (ofNat n) = true) (h1:Af (ile 0 (ofNat i)) (ilt (ofNat i) (ofNat n)) = true) (h2:ieq (AM (f i)) 0 = true) (h3:D7 1 (f i) = true) (h4:Az (f i) = false) (h5:Au (f i) = true):Ai (B7 L) (Ki n f) (CO n f x y i j) = some (.nm,⟨(jsV 133 0 (fun _=>.und) [(0,(iV 1)),(1,(.sl 6 n (fun i=>eV (f i)))),(4,(iV 0)),(5,(iV 0)),(6,(nV n)),(7,(iV x)),(8,(iV (wr .i64 (Ae y 1)))),(9,(iV (wr .i64 (Ae (ofNat i) 1))))]),[]⟩):=Aa (bbK 9 427) ((fun c0=>[ilt (ofNat i) (ofNat n),c0,Am (ieq (AM (f i)) 0),c0,Am (D7 1 (f i)),c0,Az (f i),c0,Au (f i)]) (Af (ile 0 (ofNat i)) (ilt (ofNat i) (ofNat n)))) (by kernel_rfl) (by simp only [h1] <;> simp only [*] <;> rfl)
theorem AaQ (h0:ilt (ofNat i) (ofNat n) = true) (h1:Af (ile 0 (ofNat i)) (ilt (ofNat i) (ofNat n)) = true) (h2:ieq (AM (f i)) 0 = true) (h3:D7 1 (f i) = true) (h4:Az (f i) = true) (h5:Au (f i) = false):Ai (B7 L) (Ki n f) (CO n f x y i j) = some (.nm,⟨(jsV 133 0 (fun _=>.und) [(0,(iV 1)),(1,(.sl 6 n (fun i=>eV (f i)))),(4,(iV 0)),(5,(iV 0)),(6,(nV n)),(7,(iV (wr .i64 (Ae x 1)))),(8,(iV y)),(9,(iV (wr .i64 (Ae (ofNat i) 1))))]),[]⟩):=Aa (bbK 9 235) ((fun c0=>[ilt (ofNat i) (ofNat n),c0,Am (ieq (AM (f i)) 0),c0,Am (D7 1 (f i)),c0,Az (f i),c0,Au (f i)]) (Af (ile 0 (ofNat i)) (ilt (ofNat i) (ofNat n)))) (by kernel_rfl) (by simp only [h1] <;> simp only [*] <;> rfl)
theorem AaR (h0:ilt (ofNat i) (ofNat n) = true) (h1:Af (ile 0 (ofNat i)) (ilt (ofNat i) (ofNat n)) = true) (h2:ieq (AM (f i)) 0 = true) (h3:D7 1 (f i) = true) (h4:Az (f i) = true) (h5:Au (f i) = true):Ai (B7 L) (Ki n f) (CO n f x y i j) = some (.nm,⟨(jsV 133 0 (fun _=>.und) [(0,(iV 1)),(1,(.sl 6 n (fun i=>eV (f i)))),(4,(iV 0)),(5,(iV 0)),(6,(nV n)),(7,(iV (wr .i64 (Ae x 1)))),(8,(iV (wr .i64 (Ae y 1)))),(9,(iV (wr .i64 (Ae (ofNat i) 1))))]),[]⟩):=Aa (bbK 9 491) ((fun c0=>[ilt (ofNat i) (ofNat n),c0,Am (ieq (AM (f i)) 0),c0,Am (D7 1 (f i)),c0,Az (f i),c0,Au (f i)]) (Af (ile 0 (ofNat i)) (ilt (ofNat i) (ofNat n)))) (by kernel_rfl) (by simp only [h1] <;> simp only [*] <;> rfl)
end
def EZ (n:Nat) (f:Nat->E6) :Nat->V:=lkV A7 [(17,(iV 1)),(18,(bV (Am (ieq 1 1)))),(19,(bV (Am (ieq 1 1)))),(22,(bV false)),(23,(.sl 6 n (fun i=>eV (f i)))),(24,(nV n)),(25,(nV n)),(26,(bV (ilt (ofNat n) 2))),(27,(bV (ilt (ofNat n) 2))),(28,(nV n)),(29,(bV (ilt 16 (ofNat n)))),(30,(bV (ilt 16 (ofNat n))))]
def Km (n:Nat) (_:Nat->E6):Lp:=⟨(bmK 133 0 [1,4,5,6,7,8,12]),0,bmK 133 0 [1,4,5,6,7,8],0,n+1⟩
def Cv (n:Nat) (f:Nat->E6) (x y:Int) (i:Nat) (j:Nat->V):St:=⟨(jsV 133 0 j [(1,.sl 6 n (fun i=>eV (f i))),(4,iV 0),(5,iV 0),(6,nV n),(7,iV x),(8,iV y),(12,nV i)]),[]⟩
def BO (n:Nat) (f:Nat->E6) (x y:Int) (_:Nat):Ex × St:=(.ex 2,⟨(jsV 133 0 (fun _=>.und) [(1,.sl 6 n (fun i=>eV (f i))),(4,iV 0),(5,iV 0),(6,nV n),(7,iV x),(8,iV y)]),[]⟩)
def GK (n:Nat) (f:Nat->E6) (x y:Int) (i:Nat):Ex × St:=(.rt,⟨(jsV 133 0 (fun _=>.und) [(1,.sl 6 n (fun i=>eV (f i))),(4,iV 41),(5,nV i),(6,nV n),(7,iV x),(8,iV y)]),[]⟩)
noncomputable def BF (L:LT):St->T (Ex × St):=fun st=>A9 tab ⟨Ao CT,L,Gl⟩ (Av Try.f19 2) 2 st
section
variable (L:LT) (n:Nat) (f:Nat->E6) (x y:Int) (i:Nat)  (j:Nat->V)
include L n f x y i j
theorem Afw (h0:ilt (ofNat i) (ofNat n) = false):Ai (BF L) (Km n f) (Cv n f x y i j) = some ((.ex 2),⟨(jsV 133 0 (fun _=>.und) [(1,(.sl 6 n (fun i=>eV (f i)))),(4,(iV 0)),(5,(iV 0)),(6,(nV n)),(7,(iV x)),(8,(iV y))]),[]⟩):=Aa [false] [ilt (ofNat i) (ofNat n)] (by kernel_rfl) (by simp only [h0] <;> rfl)
theorem Afv (h0:ilt (ofNat i) (ofNat n) = true) (h1:Af (ile 0 (ofNat i)) (ilt (ofNat i) (ofNat n)) = true) (h2:ieq (ofNat n) 0 = false) (h3:Af (ile 0 (Ad (wr .i64 (Ae (ofNat i) 1)) (ofNat n))) (ilt (Ad (wr .i64 (Ae (ofNat i) 1)) (ofNat n)) (ofNat n)) = true) (h4:ieq ((f i)).dst ((f (toN (Ad (wr .i64 (Ae (ofNat i) 1)) (ofNat n))))).src = false):Ai (BF L) (Km n f) (Cv n f x y i j) = some (.rt,⟨(jsV 133 0 (fun _=>.und) [(1,(.sl 6 n (fun i=>eV (f i)))),(4,(iV 41)),(5,(nV i)),(6,(nV n)),(7,(iV x)),(8,(iV y))]),[]⟩):=Aa [true,true,false,true,true] [ilt (ofNat i) (ofNat n),Af (ile 0 (ofNat i)) (ilt (ofNat i) (ofNat n)),ieq (ofNat n) 0,Af (ile 0 (Ad (wr .i64 (Ae (ofNat i) 1)) (ofNat n))) (ilt (Ad (wr .i64 (Ae (ofNat i) 1)) (ofNat n)) (ofNat n)),Am (ieq ((f i)).dst ((f (toN (Ad (wr .i64 (Ae (ofNat i) 1)) (ofNat n))))).src)] (by kernel_rfl) (by simp only [h1,h3] <;> simp only [*] <;> rfl)
theorem Afu (h0:ilt (ofNat i) (ofNat n) = true) (h1:Af (ile 0 (ofNat i)) (ilt (ofNat i) (ofNat n)) = true) (h2:ieq (ofNat n) 0 = false) (h3:Af (ile 0 (Ad (wr .i64 (Ae (ofNat i) 1)) (ofNat n))) (ilt (Ad (wr .i64 (Ae (ofNat i) 1)) (ofNat n)) (ofNat n)) = true) (h4:ieq ((f i)).dst ((f (toN (Ad (wr .i64 (Ae (ofNat i) 1)) (ofNat n))))).src = true):Ai (BF L) (Km n f) (Cv n f x y i j) = some (.nm,⟨(jsV 133 0 (fun _=>.und) [(1,(.sl 6 n (fun i=>eV (f i)))),(4,(iV 0)),(5,(iV 0)),(6,(nV n)),(7,(iV x)),(8,(iV y)),(12,(iV (wr .i64 (Ae (ofNat i) 1))))]),[]⟩):=Aa [true,true,false,true,false] [ilt (ofNat i) (ofNat n),Af (ile 0 (ofNat i)) (ilt (ofNat i) (ofNat n)),ieq (ofNat n) 0,Af (ile 0 (Ad (wr .i64 (Ae (ofNat i) 1)) (ofNat n))) (ilt (Ad (wr .i64 (Ae (ofNat i) 1)) (ofNat n)) (ofNat n)),Am (ieq ((f i)).dst ((f (toN (Ad (wr .i64 (Ae (ofNat i) 1)) (ofNat n))))).src)] (by kernel_rfl) (by simp only [h1,h3] <;> simp only [*] <;> rfl)
end
def D1 (_:Nat) (_:Nat->E6) (_ _:Int) (_:Nat):Nat->V:=lkV A7 [(0,.und),(2,.und),(3,.und),(9,.und),(10,.und),(11,.und),(13,.und),(14,.und),(15,.und),(16,.und),(17,.und),(18,.und),(19,.und),(20,.und),(21,.und),(22,.und),(23,.und),(24,.und),(25,.und),(26,.und),(27,.und),(28,.und),(29,.und),(30,.und),(31,.und),(32,.und),(33,.und),(34,.und),(35,.und),(36,.und),(37,.und),(38,.und),(39,.und),(40,.und),(41,.und),(42,.und),(43,.und),(44,.und),(45,.und),(46,.und),(47,.und),(48,.und),(49,.und),(50,.und),(51,.und),(52,.und),(53,.und),(54,.und),(55,.und),(56,.und),(57,.und),(58,.und),(59,.und),(60,.und),(61,.und),(62,.und),(63,.und),(64,.und),(65,.und),(66,.und),(67,.und),(68,.und),(69,.und),(70,.und),(71,.und),(72,.und),(73,.und),(74,.und),(75,.und),(76,.und),(77,.und),(78,.und),(79,.und),(80,.und),(81,.und),(82,.und),(83,.und),(84,.und),(85,.und),(86,.und),(87,.und),(88,.und),(89,.und),(90,.und),(91,.und),(92,.und),(93,.und),(94,.und),(95,.und),(96,.und),(97,.und),(98,.und),(99,.und),(100,.und),(101,.und),(102,.und),(103,.und),(104,.und),(105,.und),(106,.und),(107,.und),(108,.und),(109,.und),(110,.und),(111,.und),(112,.und),(113,.und),(114,.und),(115,.und),(116,.und),(117,.und),(118,.und),(119,.und),(120,.und),(121,.und),(122,.und),(123,.und),(124,.und),(125,.und),(126,.und),(127,.und),(128,.und),(129,.und),(130,.und),(131,.und),(132,.und)]
def IN (n:Nat) (_:Nat->E6):Lp:=⟨(bmK 133 0 [1,4,5,6,13,14,15]),2,bmK 133 0 [1,4,5,6,13],2,n+1⟩
def DP (n:Nat) (f:Nat->E6) (u v:Nat->Int) (i:Nat) (j:Nat->V):St:=⟨(jsV 133 0 j [(1,.sl 6 n (fun i=>eV (f i))),(4,iV 0),(5,iV 0),(6,nV n),(13,.ref 0),(14,.ref 1),(15,nV i)]),[.row 3 1 n (fun k=>iV (u k)),.row 3 1 n (fun k=>iV (v k))]⟩
def Iq (n:Nat) (f:Nat->E6) (u v:Nat->Int) (_:Nat):Ex × St:=(.ex 4,⟨(jsV 133 0 (fun _=>.und) [(1,.sl 6 n (fun i=>eV (f i))),(4,iV 0),(5,iV 0),(6,nV n),(13,.ref 0)]),[.row 3 1 n (fun k=>iV (u k)),.row 3 1 n (fun k=>iV (v k))]⟩)
def Ob (n:Nat) (f:Nat->E6) (u v:Nat->Int) (i:Nat):Ex × St:=(.rt,⟨(jsV 133 0 (fun _=>.und) [(1,.sl 6 n (fun i=>eV (f i))),(4,iV 44),(5,nV i),(6,nV n),(13,.ref 0)]),[.row 3 1 n (fun k=>iV (u k)),.row 3 1 n (fun k=>iV (v k))]⟩)
noncomputable def C4 (L:LT):St->T (Ex × St):=fun st=>A9 tab ⟨Ao CT,L,Gl⟩ (Av Try.f19 4) 4 st
section
variable (L:LT) (n:Nat) (f:Nat->E6) (u v:Nat->Int) (i:Nat)  (j:Nat->V)
include L n f u v i j
theorem AeJ (h0:ilt (ofNat i) (ofNat n) = false):Ai (C4 L) (IN n f) (DP n f u v i j) = some ((.ex 4),⟨(jsV 133 0 (fun _=>.und) [(1,(.sl 6 n (fun i=>eV (f i)))),(4,(iV 0)),(5,(iV 0)),(6,(nV n)),(13,(.ref 0))]),[.row 3 1 n (fun k=>iV (u k)),.row 3 1 n (fun k=>iV (v k))]⟩):=Aa [false] [ilt (ofNat i) (ofNat n)] (by kernel_rfl) (by simp only [h0] <;> rfl)
theorem AeM (h0:ilt (ofNat i) (ofNat n) = true) (h1:Af (ile 0 (ofNat i)) (ilt (ofNat i) (ofNat n)) = true) (h2:ieq ((f i)).src 2 = false):Ai (C4 L) (IN n f) (DP n f u v i j) = some (.nm,⟨(jsV 133 0 (fun _=>.und) [(1,(.sl 6 n (fun i=>eV (f i)))),(4,(iV 0)),(5,(iV 0)),(6,(nV n)),(13,(.ref 0)),(14,(.ref 1)),(15,(iV (wr .i64 (Ae (ofNat i) 1))))]),[.row 3 1 n (fun k=>iV (u k)),.row 3 1 n (fun k=>iV (v k))]⟩):=Aa (bbK 12 3) ((fun c0=>[ilt (ofNat i) (ofNat n),Af (ile 0 (ofNat i)) (ilt (ofNat i) (ofNat n)),c0,c0,c0,c0,c0,c0,c0,c0,c0,false]) (ieq ((f i)).src 2)) (by kernel_rfl) (by simp only [h1] <;> simp only [h0,h2] <;> rfl)
theorem AeL (h0:ilt (ofNat i) (ofNat n) = true) (h1:Af (ile 0 (ofNat i)) (ilt (ofNat i) (ofNat n)) = true) (h2:ieq ((f i)).src 2 = true) (h15:nlt i n = true) (h3:AN n n = true) (h4:Ah n = true) (h5:ilt 2 (Ea n v (fun i=>bor (Am true) (isW (f i))) (v i)) = false):Ai (C4 L) (IN n f) (DP n f u v i j) = some (.nm,⟨(jsV 133 0 (fun _=>.und) [(1,(.sl 6 n (fun i=>eV (f i)))),(4,(iV 0)),(5,(iV 0)),(6,(nV n)),(13,(.ref 0)),(14,(.ref 1)),(15,(iV (wr .i64 (Ae (ofNat i) 1))))]),[.row 3 1 n (fun k=>iV (u k)),.row 3 1 n (fun k=>iV (v k))]⟩):=Aa (bbK 18 131071) ((fun c0 c1 c2=>[ilt (ofNat i) (ofNat n),c0,c1,c1,c1,c1,c1,c0,c1,nlt i n,c1,c2,c2,AN n n,Ah n,c1,c1,ilt 2 (Ea n v (fun i=>bor (Am true) (isW (f i))) (v i))]) (Af (ile 0 (ofNat i)) (ilt (ofNat i) (ofNat n))) (ieq ((f i)).src 2) (An n (fun _=>true))) (by kernel_rfl) (by simp only [h1] <;> simp only [*,Ar] <;> rfl)
theorem AeK (h0:ilt (ofNat i) (ofNat n) = true) (h1:Af (ile 0 (ofNat i)) (ilt (ofNat i) (ofNat n)) = true) (h2:ieq ((f i)).src 2 = true) (h15:nlt i n = true) (h3:AN n n = true) (h4:Ah n = true) (h5:ilt 2 (Ea n v (fun i=>bor (Am true) (isW (f i))) (v i)) = true):Ai (C4 L) (IN n f) (DP n f u v i j) = some (.rt,⟨(jsV 133 0 (fun _=>.und) [(1,(.sl 6 n (fun i=>eV (f i)))),(4,(iV 44)),(5,(nV i)),(6,(nV n)),(13,(.ref 0))]),[.row 3 1 n (fun k=>iV (u k)),.row 3 1 n (fun k=>iV (v k))]⟩):=Aa (bbK 18 262143) ((fun c0 c1 c2=>[ilt (ofNat i) (ofNat n),c0,c1,c1,c1,c1,c1,c0,c1,nlt i n,c1,c2,c2,AN n n,Ah n,c1,c1,ilt 2 (Ea n v (fun i=>bor (Am true) (isW (f i))) (v i))]) (Af (ile 0 (ofNat i)) (ilt (ofNat i) (ofNat n))) (ieq ((f i)).src 2) (An n (fun _=>true))) (by kernel_rfl) (by simp only [h1] <;> simp only [*,Ar] <;> rfl)
end
def IT (n:Nat) (f:Nat->E6) (x y:Int) (_ _:Nat):Nat->V:=lkV A7 [(0,.und),(2,.und),(3,.und),(7,(iV x)),(8,(iV y)),(9,.und),(10,.und),(11,.und),(12,.und),(16,.und),(17,.und),(18,.und),(19,.und),(20,.und),(21,.und),(22,.und),(23,.und),(24,.und),(25,.und),(26,.und),(27,.und),(28,.und),(29,.und),(30,.und),(31,.und),(32,.und),(33,.und),(34,.und),(35,.und),(36,.und),(37,.und),(38,.und),(39,.und),(40,.und),(41,.und),(42,.und),(43,.und),(44,.und),(45,.und),(46,.und),(47,.und),(48,.und),(49,.und),(50,.und),(51,.und),(52,.und),(53,.und),(54,.und),(55,.und),(56,.und),(57,.und),(58,.und),(59,.und),(60,.und),(61,.und),(62,.und),(63,.und),(64,.und),(65,.und),(66,.und),(67,.und),(68,.und),(69,.und),(70,.und),(71,.und),(72,.und),(73,.und),(74,.und),(75,.und),(76,.und),(77,.und),(78,.und),(79,.und),(80,.und),(81,.und),(82,.und),(83,.und),(84,.und),(85,.und),(86,.und),(87,.und),(88,.und),(89,(iV x)),(90,(bV (ilt x 2))),(91,(iV y)),(92,(bV (ilt y 2))),(93,(.sl 6 n (fun i=>eV (f i)))),(94,(.ref 0)),(95,(.sl 6 n (fun i=>eV (f i)))),(96,(.ref 1)),(97,.und),(98,.und),(99,.und),(100,.und),(101,.und),(102,.und),(103,.und),(104,.und),(105,.und),(106,.und),(107,.und),(108,.und),(109,.und),(110,.und),(111,.und),(112,.und),(113,.und),(114,.und),(115,.und),(116,.und),(117,.und),(118,.und),(119,.und),(120,.und),(121,.und),(122,.und),(123,.und),(124,.und),(125,.und),(126,.und),(127,.und),(128,.und),(129,.und),(130,.und),(131,.und),(132,.und)]
def Kk (n:Nat) (_:Nat->E6):Lp:=⟨(bmK 133 0 [1,4,5,6,13,16]),2,bmK 133 0 [4,5],0,n+1⟩
def FI (n:Nat) (f:Nat->E6) (u v:Nat->Int) (i:Nat) (j:Nat->V):St:=⟨(jsV 133 0 j [(1,.sl 6 n (fun i=>eV (f i))),(4,iV 0),(5,iV 0),(6,nV n),(13,.ref 0),(16,nV i)]),[.row 3 1 n (fun k=>iV (u k)),.row 3 1 n (fun k=>iV (v k))]⟩
def NX (_:Nat) (_:Nat->E6) (_ _:Nat->Int) (_:Nat):Ex × St:=(.ex 6,⟨(jsV 133 0 (fun _=>.und) [(4,iV 0),(5,iV 0)]),[]⟩)
def NY (_:Nat) (_:Nat->E6) (_ _:Nat->Int) (i:Nat):Ex × St:=(.rt,⟨(jsV 133 0 (fun _=>.und) [(4,iV 45),(5,nV i)]),[]⟩)
noncomputable def DK (L:LT):St->T (Ex × St):=fun st=>A9 tab ⟨Ao CT,L,Gl⟩ (Av Try.f19 6) 6 st
section
variable (L:LT) (n:Nat) (f:Nat->E6) (u v:Nat->Int) (i:Nat)  (j:Nat->V)
include L n f u v i j
theorem Ae0 (h0:ilt (ofNat i) (ofNat n) = false):Ai (DK L) (Kk n f) (FI n f u v i j) = some ((.ex 6),⟨(jsV 133 0 (fun _=>.und) [(4,(iV 0)),(5,(iV 0))]),[]⟩):=Aa [false] [ilt (ofNat i) (ofNat n)] (by kernel_rfl) (by simp only [h0] <;> rfl)
theorem Ae2 (h0:ilt (ofNat i) (ofNat n) = true) (h1:Af (ile 0 (ofNat i)) (ilt (ofNat i) (ofNat n)) = true) (h14:nlt i n = true) (h2:AN n n = true) (h3:Ah n = true) (h4:ilt 12 (Ea n u (fun i=>bor (Am false) (isW (f i))) (u i)) = false):Ai (DK L) (Kk n f) (FI n f u v i j) = some (.nm,⟨(jsV 133 0 (fun _=>.und) [(1,(.sl 6 n (fun i=>eV (f i)))),(4,(iV 0)),(5,(iV 0)),(6,(nV n)),(13,(.ref 0)),(16,(iV (wr .i64 (Ae (ofNat i) 1))))]),[.row 3 1 n (fun k=>iV (u k)),.row 3 1 n (fun k=>iV (v k))]⟩):=Aa (bbK 8 127) [ilt (ofNat i) (ofNat n),Af (ile 0 (ofNat i)) (ilt (ofNat i) (ofNat n)),nlt i n,An n (fun _=>true),An n (fun _=>true),AN n n,Ah n,ilt 12 (Ea n u (fun i=>bor (Am false) (isW (f i))) (u i))] (by kernel_rfl) (by simp only [h1] <;> simp only [*,Ar] <;> rfl)
theorem Ae1 (h0:ilt (ofNat i) (ofNat n) = true) (h1:Af (ile 0 (ofNat i)) (ilt (ofNat i) (ofNat n)) = true) (h14:nlt i n = true) (h2:AN n n = true) (h3:Ah n = true) (h4:ilt 12 (Ea n u (fun i=>bor (Am false) (isW (f i))) (u i)) = true):Ai (DK L) (Kk n f) (FI n f u v i j) = some (.rt,⟨(jsV 133 0 (fun _=>.und) [(4,(iV 45)),(5,(nV i))]),[]⟩):=Aa (bbK 8 255) [ilt (ofNat i) (ofNat n),Af (ile 0 (ofNat i)) (ilt (ofNat i) (ofNat n)),nlt i n,An n (fun _=>true),An n (fun _=>true),AN n n,Ah n,ilt 12 (Ea n u (fun i=>bor (Am false) (isW (f i))) (u i))] (by kernel_rfl) (by simp only [h1] <;> simp only [*,Ar] <;> rfl)
end
def Ms (_:Nat) (_:Nat->E6) (_ _:Int) (_ _:Nat) (_ _:Nat->Int) (_:Nat):Nat->V:=lkV A7 [(0,.und),(2,.und),(3,.und),(7,.und),(8,.und),(9,.und),(10,.und),(11,.und),(12,.und),(14,.und),(15,.und),(17,.und),(18,.und),(19,.und),(20,.und),(21,.und),(22,.und),(23,.und),(24,.und),(25,.und),(26,.und),(27,.und),(28,.und),(29,.und),(30,.und),(31,.und),(32,.und),(33,.und),(34,.und),(35,.und),(36,.und),(37,.und),(38,.und),(39,.und),(40,.und),(41,.und),(42,.und),(43,.und),(44,.und),(45,.und),(46,.und),(47,.und),(48,.und),(49,.und),(50,.und),(51,.und),(52,.und),(53,.und),(54,.und),(55,.und),(56,.und),(57,.und),(58,.und),(59,.und),(60,.und),(61,.und),(62,.und),(63,.und),(64,.und),(65,.und),(66,.und),(67,.und),(68,.und),(69,.und),(70,.und),(71,.und),(72,.und),(73,.und),(74,.und),(75,.und),(76,.und),(77,.und),(78,.und),(79,.und),(80,.und),(81,.und),(82,.und),(83,.und),(84,.und),(85,.und),(86,.und),(87,.und),(88,.und),(89,.und),(90,.und),(91,.und),(92,.und),(93,.und),(94,.und),(95,.und),(96,.und),(97,.und),(98,.und),(99,.und),(100,.und),(101,.und),(102,.und),(103,.und),(104,.und),(105,.und),(106,.und),(107,.und),(108,.und),(109,.und),(110,.und),(111,.und),(112,.und),(113,.und),(114,.und),(115,.und),(116,.und),(117,.und),(118,.und),(119,.und),(120,.und),(121,.und),(122,.und),(123,.und),(124,.und),(125,.und),(126,.und),(127,.und),(128,.und),(129,.und),(130,.und),(131,.und),(132,.und)]
section
variable (L:LT) (p0:PT) (n:Nat) (f:Nat->E6) (x y:Int) (i:Nat)
include L p0 n f x y i
theorem AcQ (h0:ilt (ofNat n) 2 = false) (h1:ilt 16 (ofNat n) = false) (hp0:p0 (B7 (onP 0 p0 (QB n f x y i) L)) (CO n f 0 0 0 (EZ n f )) = true):(A1 (Al tab ⟨Ao CT,onP 0 p0 (QB n f x y i) L,Gl⟩ Try.f19 [iV 1,A2 n f] [])).sem = some ((.tup [iV 30,nV i]),[]):=Aa (bbK 9 256) ((fun c0 c1=>[c0,c0,c0,false,c1,c1,c1,ilt 16 (ofNat n),p0 (B7 (onP 0 p0 (QB n f x y i) L)) (CO n f 0 0 0 (EZ n f ))]) (Am (ieq 1 1)) (ilt (ofNat n) 2)) (by kernel_rfl) (by simp only [hp0] <;> simp only [h0,h1] <;> rfl)
theorem AcP (h0:ilt (ofNat n) 2 = false) (h1:ilt 16 (ofNat n) = false) (hp0:p0 (B7 (onP 0 p0 (QA n f x y i) L)) (CO n f 0 0 0 (EZ n f )) = true):(A1 (Al tab ⟨Ao CT,onP 0 p0 (QA n f x y i) L,Gl⟩ Try.f19 [iV 1,A2 n f] [])).sem = some ((.tup [iV 5,nV i]),[]):=Aa (bbK 9 256) ((fun c0 c1=>[c0,c0,c0,false,c1,c1,c1,ilt 16 (ofNat n),p0 (B7 (onP 0 p0 (QA n f x y i) L)) (CO n f 0 0 0 (EZ n f ))]) (Am (ieq 1 1)) (ilt (ofNat n) 2)) (by kernel_rfl) (by simp only [hp0] <;> simp only [h0,h1] <;> rfl)
end
section
variable (L:LT) (p0:PT) (p2:PT) (n:Nat) (f:Nat->E6) (x y:Int) (i:Nat) (i2:Nat)
include L p0 p2 n f x y i i2
theorem AcO (h0:ilt (ofNat n) 2 = false) (h1:ilt 16 (ofNat n) = false) (hp0:p0 (B7 (onP 0 p0 (Ci n f x y i) (onP 2 p2 (GK n f x y i2) L))) (CO n f 0 0 0 (EZ n f )) = true) (hp2:p2 (BF (onP 0 p0 (Ci n f x y i) (onP 2 p2 (GK n f x y i2) L))) (Cv n f x y 0 (D1 n f x y i)) = true):(A1 (Al tab ⟨Ao CT,onP 0 p0 (Ci n f x y i) (onP 2 p2 (GK n f x y i2) L),Gl⟩ Try.f19 [iV 1,A2 n f] [])).sem = some ((.tup [iV 41,nV i2]),[]):=Aa (bbK 10 768) ((fun c0 c1=>[c0,c0,c0,false,c1,c1,c1,ilt 16 (ofNat n),p0 (B7 (onP 0 p0 (Ci n f x y i) (onP 2 p2 (GK n f x y i2) L))) (CO n f 0 0 0 (EZ n f )),p2 (BF (onP 0 p0 (Ci n f x y i) (onP 2 p2 (GK n f x y i2) L))) (Cv n f x y 0 (D1 n f x y i))]) (Am (ieq 1 1)) (ilt (ofNat n) 2)) (by kernel_rfl) (by simp only [hp0,hp2] <;> simp only [h0,h1] <;> rfl)
theorem AcN (h0:ilt (ofNat n) 2 = false) (h1:ilt 16 (ofNat n) = false) (h2:ilt x 2 = true) (hp0:p0 (B7 (onP 0 p0 (Ci n f x y i) (onP 2 p2 (BO n f x y i2) L))) (CO n f 0 0 0 (EZ n f )) = true) (hp2:p2 (BF (onP 0 p0 (Ci n f x y i) (onP 2 p2 (BO n f x y i2) L))) (Cv n f x y 0 (D1 n f x y i)) = true):(A1 (Al tab ⟨Ao CT,onP 0 p0 (Ci n f x y i) (onP 2 p2 (BO n f x y i2) L),Gl⟩ Try.f19 [iV 1,A2 n f] [])).sem = some ((.tup [iV 42,iV 0]),[]):=Aa (bbK 11 1792) ((fun c0 c1=>[c0,c0,c0,false,c1,c1,c1,ilt 16 (ofNat n),p0 (B7 (onP 0 p0 (Ci n f x y i) (onP 2 p2 (BO n f x y i2) L))) (CO n f 0 0 0 (EZ n f )),p2 (BF (onP 0 p0 (Ci n f x y i) (onP 2 p2 (BO n f x y i2) L))) (Cv n f x y 0 (D1 n f x y i)),ilt x 2]) (Am (ieq 1 1)) (ilt (ofNat n) 2)) (by kernel_rfl) (by simp only [hp0,hp2] <;> simp only [*] <;> rfl)
theorem AcK (h0:ilt (ofNat n) 2 = false) (h1:ilt 16 (ofNat n) = false) (h2:ilt x 2 = false) (h3:ilt y 2 = true) (hp0:p0 (B7 (onP 0 p0 (Ci n f x y i) (onP 2 p2 (BO n f x y i2) L))) (CO n f 0 0 0 (EZ n f )) = true) (hp2:p2 (BF (onP 0 p0 (Ci n f x y i) (onP 2 p2 (BO n f x y i2) L))) (Cv n f x y 0 (D1 n f x y i)) = true):(A1 (Al tab ⟨Ao CT,onP 0 p0 (Ci n f x y i) (onP 2 p2 (BO n f x y i2) L),Gl⟩ Try.f19 [iV 1,A2 n f] [])).sem = some ((.tup [iV 43,iV 0]),[]):=Aa (bbK 12 2816) ((fun c0 c1=>[c0,c0,c0,false,c1,c1,c1,ilt 16 (ofNat n),p0 (B7 (onP 0 p0 (Ci n f x y i) (onP 2 p2 (BO n f x y i2) L))) (CO n f 0 0 0 (EZ n f )),p2 (BF (onP 0 p0 (Ci n f x y i) (onP 2 p2 (BO n f x y i2) L))) (Cv n f x y 0 (D1 n f x y i)),ilt x 2,ilt y 2]) (Am (ieq 1 1)) (ilt (ofNat n) 2)) (by kernel_rfl) (by simp only [hp0,hp2] <;> simp only [*] <;> rfl)
end
abbrev pO (n:Nat) (f:Nat->E6):Nat->Int:=fun k=>A0 (fun k=>Az (f k)) n k
abbrev pM (n:Nat) (f:Nat->E6):Nat->Int:=fun k=>A0 (fun k=>Au (f k)) n k
noncomputable abbrev La (L:LT) (p0:PT) (p2:PT) (p4:PT) (n:Nat) (f:Nat->E6) (x:Int) (y:Int) (i:Nat) (i2:Nat) (i4:Nat):LT:=onP 0 p0 (Ci n f x y i) (onP 2 p2 (BO n f x y i2) (onP 4 p4 (Ob n f (pO n f) (pM n f) i4) L))
theorem AcJ (L:LT) (p0:PT) (p2:PT) (p4:PT) (n:Nat) (f:Nat->E6) (x y:Int) (i:Nat) (i2 i4:Nat) (h0:ilt (ofNat n) 2 = false) (h1:ilt 16 (ofNat n) = false) (h2:ilt x 2 = false) (h3:ilt y 2 = false) (h4:AL n = true) (hp0:p0 (B7 (La L p0 p2 p4 n f x y i i2 i4)) (CO n f 0 0 0 (EZ n f )) = true) (hp2:p2 (BF (La L p0 p2 p4 n f x y i i2 i4)) (Cv n f x y 0 (D1 n f x y i)) = true) (hp4:p4 (C4 (La L p0 p2 p4 n f x y i i2 i4)) (DP n f (pO n f) (pM n f) 0 (IT n f x y i i2)) = true):(A1 (Al tab ⟨Ao CT,onP 0 p0 (Ci n f x y i) (onP 2 p2 (BO n f x y i2) (onP 4 p4 (Ob n f (pO n f) (pM n f) i4) L)),Gl⟩ Try.f19 [iV 1,A2 n f] [])).sem = some ((.tup [iV 44,nV i4]),[]):=Aa (bbK 17 127744) ((fun c0 c1 c2 c3=>[c0,c0,c0,false,c1,c1,c1,ilt 16 (ofNat n),p0 (B7 (La L p0 p2 p4 n f x y i i2 i4)) (CO n f 0 0 0 (EZ n f )),p2 (BF (La L p0 p2 p4 n f x y i i2 i4)) (Cv n f x y 0 (D1 n f x y i)),ilt x 2,ilt y 2,c2,c3,c2,c3,p4 (C4 (La L p0 p2 p4 n f x y i i2 i4)) (DP n f (pO n f) (pM n f) 0 (IT n f x y i i2))]) (Am (ieq 1 1)) (ilt (ofNat n) 2) (An n (fun _=>true)) (AL n)) (by kernel_rfl) (by simp only [hp0,hp2,hp4] <;> simp only [*,Ar] <;> rfl)
section
variable (L:LT) (p0:PT) (p2:PT) (p4:PT) (p6:PT) (n:Nat) (f:Nat->E6) (x y:Int) (i:Nat) (i2 i4 i6:Nat)
include L p0 p2 p4 p6 n f x y i i2 i4 i6
noncomputable abbrev Ia (L:LT) (p0:PT) (p2:PT) (p4:PT) (p6:PT) (n:Nat) (f:Nat->E6) (x:Int) (y:Int) (i:Nat) (i2:Nat) (i4:Nat) (i6:Nat):LT:=onP 0 p0 (Ci n f x y i) (onP 2 p2 (BO n f x y i2) (onP 4 p4 (Iq n f (pO n f) (pM n f) i4) (onP 6 p6 (NY n f (pO n f) (pM n f) i6) L)))
theorem AcR (h0:ilt (ofNat n) 2 = false) (h1:ilt 16 (ofNat n) = false) (h2:ilt x 2 = false) (h3:ilt y 2 = false) (h4:AL n = true) (hp0:p0 (B7 (Ia L p0 p2 p4 p6 n f x y i i2 i4 i6)) (CO n f 0 0 0 (EZ n f )) = true) (hp2:p2 (BF (Ia L p0 p2 p4 p6 n f x y i i2 i4 i6)) (Cv n f x y 0 (D1 n f x y i)) = true) (hp4:p4 (C4 (Ia L p0 p2 p4 p6 n f x y i i2 i4 i6)) (DP n f (pO n f) (pM n f) 0 (IT n f x y i i2)) = true) (hp6:p6 (DK (Ia L p0 p2 p4 p6 n f x y i i2 i4 i6)) (FI n f (pO n f) (pM n f) 0 (Ms n f x y i i2 (pO n f) (pM n f) i4)) = true):(A1 (Al tab ⟨Ao CT,onP 0 p0 (Ci n f x y i) (onP 2 p2 (BO n f x y i2) (onP 4 p4 (Iq n f (pO n f) (pM n f) i4) (onP 6 p6 (NY n f (pO n f) (pM n f) i6) L))),Gl⟩ Try.f19 [iV 1,A2 n f] [])).sem = some ((.tup [iV 45,nV i6]),[]):=Aa (bbK 18 258816) ((fun c0 c1 c2 c3=>[c0,c0,c0,false,c1,c1,c1,ilt 16 (ofNat n),p0 (B7 (Ia L p0 p2 p4 p6 n f x y i i2 i4 i6)) (CO n f 0 0 0 (EZ n f )),p2 (BF (Ia L p0 p2 p4 p6 n f x y i i2 i4 i6)) (Cv n f x y 0 (D1 n f x y i)),ilt x 2,ilt y 2,c2,c3,c2,c3,p4 (C4 (Ia L p0 p2 p4 p6 n f x y i i2 i4 i6)) (DP n f (pO n f) (pM n f) 0 (IT n f x y i i2)),p6 (DK (Ia L p0 p2 p4 p6 n f x y i i2 i4 i6)) (FI n f (pO n f) (pM n f) 0 (Ms n f x y i i2 (pO n f) (pM n f) i4))]) (Am (ieq 1 1)) (ilt (ofNat n) 2) (An n (fun _=>true)) (AL n)) (by kernel_rfl) (by simp only [hp0,hp2,hp4,hp6] <;> simp only [*,Ar] <;> rfl)
noncomputable abbrev HZ (L:LT) (p0:PT) (p2:PT) (p4:PT) (p6:PT) (n:Nat) (f:Nat->E6) (x:Int) (y:Int) (i:Nat) (i2:Nat) (i4:Nat) (i6:Nat):LT:=onP 0 p0 (Ci n f x y i) (onP 2 p2 (BO n f x y i2) (onP 4 p4 (Iq n f (pO n f) (pM n f) i4) (onP 6 p6 (NX n f (pO n f) (pM n f) i6) L)))
theorem AcI (h0:ilt (ofNat n) 2 = false) (h1:ilt 16 (ofNat n) = false) (h2:ilt x 2 = false) (h3:ilt y 2 = false) (h4:AL n = true) (hp0:p0 (B7 (HZ L p0 p2 p4 p6 n f x y i i2 i4 i6)) (CO n f 0 0 0 (EZ n f )) = true) (hp2:p2 (BF (HZ L p0 p2 p4 p6 n f x y i i2 i4 i6)) (Cv n f x y 0 (D1 n f x y i)) = true) (hp4:p4 (C4 (HZ L p0 p2 p4 p6 n f x y i i2 i4 i6)) (DP n f (pO n f) (pM n f) 0 (IT n f x y i i2)) = true) (hp6:p6 (DK (HZ L p0 p2 p4 p6 n f x y i i2 i4 i6)) (FI n f (pO n f) (pM n f) 0 (Ms n f x y i i2 (pO n f) (pM n f) i4)) = true):(A1 (Al tab ⟨Ao CT,onP 0 p0 (Ci n f x y i) (onP 2 p2 (BO n f x y i2) (onP 4 p4 (Iq n f (pO n f) (pM n f) i4) (onP 6 p6 (NX n f (pO n f) (pM n f) i6) L))),Gl⟩ Try.f19 [iV 1,A2 n f] [])).sem = some ((.tup [iV 0,iV 0]),[]):=Aa (bbK 18 258816) ((fun c0 c1 c2 c3=>[c0,c0,c0,false,c1,c1,c1,ilt 16 (ofNat n),p0 (B7 (HZ L p0 p2 p4 p6 n f x y i i2 i4 i6)) (CO n f 0 0 0 (EZ n f )),p2 (BF (HZ L p0 p2 p4 p6 n f x y i i2 i4 i6)) (Cv n f x y 0 (D1 n f x y i)),ilt x 2,ilt y 2,c2,c3,c2,c3,p4 (C4 (HZ L p0 p2 p4 p6 n f x y i i2 i4 i6)) (DP n f (pO n f) (pM n f) 0 (IT n f x y i i2)),p6 (DK (HZ L p0 p2 p4 p6 n f x y i i2 i4 i6)) (FI n f (pO n f) (pM n f) 0 (Ms n f x y i i2 (pO n f) (pM n f) i4))]) (Am (ieq 1 1)) (ilt (ofNat n) 2) (An n (fun _=>true)) (AL n)) (by kernel_rfl) (by simp only [hp0,hp2,hp4,hp6] <;> simp only [*,Ar] <;> rfl)
end
section
variable (L:LT) (n:Nat) (f:Nat->E6)
include L n f
theorem AcM (h0:ilt (ofNat n) 2 = true):(A1 (Al tab ⟨Ao CT,L,Gl⟩ Try.f19 [iV 1,A2 n f] [])).sem = some ((.tup [iV 40,iV 0]),[]):=Aa (bbK 8 240) ((fun c0 c1=>[c0,c0,c0,false,c1,c1,c1,true]) (Am (ieq 1 1)) (ilt (ofNat n) 2)) (by kernel_rfl) (by simp only [h0] <;> rfl)
theorem AcL (h0:ilt (ofNat n) 2 = false) (h1:ilt 16 (ofNat n) = true):(A1 (Al tab ⟨Ao CT,L,Gl⟩ Try.f19 [iV 1,A2 n f] [])).sem = some ((.tup [iV 40,iV 0]),[]):=Aa (bbK 8 128) ((fun c0 c1=>[c0,c0,c0,false,c1,c1,c1,ilt 16 (ofNat n)]) (Am (ieq 1 1)) (ilt (ofNat n) 2)) (by kernel_rfl) (by simp only [h0,h1] <;> rfl)
end
theorem MU (L:LT) (n:Nat) (f:Nat->E6) (hn:n <= 4611686018427387904):∀ (d i:Nat) (j:Nat->V) (q:Nat),n = i+d->d < q ->
    (A3 (B7 L) (Ki n f) q (CO n f (ofNat (Aj (fun k=>Az (f k)) i)) (ofNat (Aj (fun k=>Au (f k)) i)) i j)).sem = some (match Bb (Cu 1 f) d i with
      | none=>Ci n f (ofNat (Aj (fun k=>Az (f k)) n)) (ofNat (Aj (fun k=>Au (f k)) n)) n
      | some t=>match ieq (Dw 1 (f t)) 0 with
        | false=>QB n f (ofNat (Aj (fun k=>Az (f k)) t)) (ofNat (Aj (fun k=>Au (f k)) t)) t
        | true=>QA n f (ofNat (Aj (fun k=>Az (f k)) t)) (ofNat (Aj (fun k=>Au (f k)) t)) t)
  | 0,i,j,q+1,h,_=>by
    have:n = i:=by omega
    subst this
    exact Ab (Af3 L n f (ofNat (Aj (fun k=>Az (f k)) n)) (ofNat (Aj (fun k=>Au (f k)) n)) n j (A8 (Nat.le_refl _)))
  | d+1,i,j,q+1,h,h2=>by
    have hl:i < n:=by omega
    have ho:=Bd (fun k=>Az (f k)) i
    have hm:=Bd (fun k=>Au (f k)) i
    cases c1:ieq (AM (f i)) 0 with
    | false =>
      have c1':ieq (Dw 1 (f i)) 0 = false:=c1
      rw [BT (show Cu 1 f i = true by rw [Cu,c1']; rfl)]
      simp only [c1']
      exact Ab (Af2 L n f (ofNat (Aj (fun k=>Az (f k)) i)) (ofNat (Aj (fun k=>Au (f k)) i)) i j (ofNat_lt hl) (Ay hl) c1)
    | true =>
      have c1':ieq (Dw 1 (f i)) 0 = true:=c1
      cases c2:D7 1 (f i) with
      | false =>
        rw [BT (show Cu 1 f i = true by rw [Cu,c1',c2]; rfl)]
        simp only [c1']
        exact Ab (Af1 L n f (ofNat (Aj (fun k=>Az (f k)) i)) (ofNat (Aj (fun k=>Au (f k)) i)) i j (ofNat_lt hl) (Ay hl) c1 c2)
      | true =>
        cases c3:Az (f i) with
        | false =>
          cases c4:Au (f i) with
          | false =>
            rw [Bz (show Cu 1 f i = false by rw [Cu,show ieq (Dw 1 (f i)) 0 = true from c1,c2]; rfl),Ab (AaS L n f (ofNat (Aj (fun k=>Az (f k)) i)) (ofNat (Aj (fun k=>Au (f k)) i)) i j (ofNat_lt hl) (Ay hl) c1 c2 c3 c4),Aw,Aq hl hn,<- B2 (p:=(fun k=>Az (f k))) c3,<- B2 (p:=(fun k=>Au (f k))) c4]
            exact MU L n f hn d (i+1) (fun _=>.und) q (by omega) (by omega)
          | true =>
            rw [Bz (show Cu 1 f i = false by rw [Cu,show ieq (Dw 1 (f i)) 0 = true from c1,c2]; rfl),Ab (AaT L n f (ofNat (Aj (fun k=>Az (f k)) i)) (ofNat (Aj (fun k=>Au (f k)) i)) i j (ofNat_lt hl) (Ay hl) c1 c2 c3 c4),Aw,Aq hl hn,Aq (show Aj (fun k=>Au (f k)) i < n by omega) hn,<- B2 (p:=(fun k=>Az (f k))) c3,<- Bi (p:=(fun k=>Au (f k))) c4]
            exact MU L n f hn d (i+1) (fun _=>.und) q (by omega) (by omega)
        | true =>
          cases c4:Au (f i) with
          | false =>
            rw [Bz (show Cu 1 f i = false by rw [Cu,show ieq (Dw 1 (f i)) 0 = true from c1,c2]; rfl),Ab (AaQ L n f (ofNat (Aj (fun k=>Az (f k)) i)) (ofNat (Aj (fun k=>Au (f k)) i)) i j (ofNat_lt hl) (Ay hl) c1 c2 c3 c4),Aw,Aq hl hn,Aq (show Aj (fun k=>Az (f k)) i < n by omega) hn,<- Bi (p:=(fun k=>Az (f k))) c3,<- B2 (p:=(fun k=>Au (f k))) c4]
            exact MU L n f hn d (i+1) (fun _=>.und) q (by omega) (by omega)
          | true =>
            rw [Bz (show Cu 1 f i = false by rw [Cu,show ieq (Dw 1 (f i)) 0 = true from c1,c2]; rfl),Ab (AaR L n f (ofNat (Aj (fun k=>Az (f k)) i)) (ofNat (Aj (fun k=>Au (f k)) i)) i j (ofNat_lt hl) (Ay hl) c1 c2 c3 c4),Aw,Aq hl hn,Aq (show Aj (fun k=>Az (f k)) i < n by omega) hn,Aq (show Aj (fun k=>Au (f k)) i < n by omega) hn,<- Bi (p:=(fun k=>Az (f k))) c3,<- Bi (p:=(fun k=>Au (f k))) c4]
            exact MU L n f hn d (i+1) (fun _=>.und) q (by omega) (by omega)
theorem UN (L:LT) (n:Nat) (f:Nat->E6) (x y:Int) (hn:n <= 4611686018427387904):∀ (d i:Nat) (j:Nat->V) (q:Nat),n = i+d->d < q ->
    (A3 (BF L) (Km n f) q (Cv n f x y i j)).sem = some (match Bb (EX n f) d i with
      | none=>BO n f x y 0
      | some t=>GK n f x y t)
  | 0,i,j,q+1,h,_=>by
    have:n = i:=by omega
    subst this
    exact Ab (Afw L n f x y n j (A8 (Nat.le_refl _)))
  | d+1,i,j,q+1,h,h2=>by
    have hl:i < n:=by omega
    have e1:=Nk hl hn
    have hb:Af (ile 0 (Ad (wr .i64 (Ae (ofNat i) 1)) (ofNat n))) (ilt (Ad (wr .i64 (Ae (ofNat i) 1)) (ofNat n)) (ofNat n)) = true:=by
      rw [e1]; exact Ay (Nat.mod_lt _ (by omega))
    have e2:toN (ofNat ((i+1) % n)) = (i+1) % n:=rfl
    cases c1:ieq (f i).dst (f ((i+1) % n)).src with
    | false =>
      rw [BT (show EX n f i = true by rw [EX,c1]; rfl)]
      exact Ab (Afv L n f x y i j (ofNat_lt hl) (Ay hl) (W1 hl) hb (by rw [e1,e2]; exact c1))
    | true =>
      rw [Bz (show EX n f i = false by rw [EX,c1]; rfl),Ab (Afu L n f x y i j (ofNat_lt hl) (Ay hl) (W1 hl) hb (by rw [e1,e2]; exact c1)),Aw,Aq hl hn]
      exact UN L n f x y hn d (i+1) (fun _=>.und) q (by omega) (by omega)
theorem PU (L:LT) (n:Nat) (f:Nat->E6) (u v:Nat->Int) (hn:n <= 4611686018427387904):∀ (d i:Nat) (j:Nat->V) (q:Nat),n = i+d->d < q ->
    (A3 (C4 L) (IN n f) q (DP n f u v i j)).sem = some (match Bb (AG n v (fun i=>isW (f i)) 2) d i with
      | none=>Iq n f u v 0
      | some t=>Ob n f u v t)
  | 0,i,j,q+1,h,_=>by
    have:n = i:=by omega
    subst this
    exact Ab (AeJ L n f u v n j (A8 (Nat.le_refl _)))
  | d+1,i,j,q+1,h,h2=>by
    have hl:i < n:=by omega
    have hs:Ah n = true:=decide_eq_true hn
    cases c1:ieq (f i).src 2 with
    | false =>
      rw [Bz (show AG n v (fun i=>isW (f i)) 2 i = false by rw [AG,isW,c1]; rfl),Ab (AeM L n f u v i j (ofNat_lt hl) (Ay hl) c1),Aw,Aq hl hn]
      exact PU L n f u v hn d (i+1) (fun _=>.und) q (by omega) (by omega)
    | true =>
      cases c2:ilt 2 (Ea n v (fun i=>(bor (Am true) (isW (f i)))) (v i)) with
      | false =>
        rw [Bz (show AG n v (fun i=>isW (f i)) 2 i = false by rw [AG,isW,c1]; exact c2),Ab (AeL L n f u v i j (ofNat_lt hl) (Ay hl) c1 (show nlt i n = true by simpa [nlt] using hl) (Nat.beq_refl n) hs c2),Aw,Aq hl hn]
        exact PU L n f u v hn d (i+1) (fun _=>.und) q (by omega) (by omega)
      | true =>
        rw [BT (show AG n v (fun i=>isW (f i)) 2 i = true by rw [AG,isW,c1]; exact c2)]
        exact Ab (AeK L n f u v i j (ofNat_lt hl) (Ay hl) c1 (show nlt i n = true by simpa [nlt] using hl) (Nat.beq_refl n) hs c2)
theorem UL (L:LT) (n:Nat) (f:Nat->E6) (u v:Nat->Int) (hn:n <= 4611686018427387904):∀ (d i:Nat) (j:Nat->V) (q:Nat),n = i+d->d < q ->
    (A3 (DK L) (Kk n f) q (FI n f u v i j)).sem = some (match Bb (AG n u (fun _=>true) 12) d i with
      | none=>NX n f u v 0
      | some t=>NY n f u v t)
  | 0,i,j,q+1,h,_=>by
    have:n = i:=by omega
    subst this
    exact Ab (Ae0 L n f u v n j (A8 (Nat.le_refl _)))
  | d+1,i,j,q+1,h,h2=>by
    have hl:i < n:=by omega
    have hs:Ah n = true:=decide_eq_true hn
    cases c2:ilt 12 (Ea n u (fun i=>(bor (Am false) (isW (f i)))) (u i)) with
    | false =>
      rw [Bz (show AG n u (fun _=>true) 12 i = false from c2),Ab (Ae2 L n f u v i j (ofNat_lt hl) (Ay hl) (show nlt i n = true by simpa [nlt] using hl) (Nat.beq_refl n) hs c2),Aw,Aq hl hn]
      exact UL L n f u v hn d (i+1) (fun _=>.und) q (by omega) (by omega)
    | true =>
      rw [BT (show AG n u (fun _=>true) 12 i = true from c2)]
      exact Ab (Ae1 L n f u v i j (ofNat_lt hl) (Ay hl) (show nlt i n = true by simpa [nlt] using hl) (Nat.beq_refl n) hs c2)
def Qj (n:Nat) (f:Nat->E6):List (Nat × Lp):=[(0,Ki n f),(2,Km n f),(4,IN n f),(6,Kk n f)]
theorem Aaj (n:Nat) (f:Nat->E6) (hF:AL n = true) :
    (A1 (Al tab (AR Gl CT (Qj n f)) Try.f19 [iV 1,A2 n f] [])).sem = some (.tup [iV (Jr 1 n f).1,iV (Jr 1 n f).2],[]):=by
  have hL:=AC (Qj n f)
  have hn:=CE (ET hF)
  unfold Jr
  cases hA:ilt (ofNat n) 2 with
  | true=>exact AcM _ n f hA
  | false =>
    cases hB:ilt 16 (ofNat n) with
    | true=>exact AcL _ n f hA hB
    | false =>
      have h0:=fun L j=>MU L n f hn n 0 j (n+1) (by omega) (by omega)
      have h2:=fun L j=>UN L n f (ofNat (Aj (fun k=>Az (f k)) n)) (ofNat (Aj (fun k=>Au (f k)) n)) hn n 0 j (n+1) (by omega) (by omega)
      have h4:=fun L j=>PU L n f (pO n f) (pM n f) hn n 0 j (n+1) (by omega) (by omega)
      have h6:=fun L j=>UL L n f (pO n f) (pM n f) hn n 0 j (n+1) (by omega) (by omega)
      show _ = some (V.tup [iV (match Dn 1 n f,ieq (Dn 1 n f).1 0 with | r,false=>r | _,true=>EG n f).1,iV (match Dn 1 n f,ieq (Dn 1 n f).1 0 with | r,false=>r | _,true=>EG n f).2],[])
      unfold Dn
      cases c1:Bb (Cu 1 f) n 0 with
      | some t =>
        rw [c1] at h0
        cases c2:ieq (Dw 1 (f t)) 0 with
        | false =>
          simp only [c2] at h0 ⊢
          exact A6 (Ax hL hL) _ (AcQ _ _ n f (ofNat (Aj (fun k=>Az (f k)) t)) (ofNat (Aj (fun k=>Au (f k)) t)) t hA hB (Ak (h0 _ _)))
        | true =>
          simp only [c2] at h0 ⊢
          exact A6 (Ax hL hL) _ (AcP _ _ n f (ofNat (Aj (fun k=>Az (f k)) t)) (ofNat (Aj (fun k=>Au (f k)) t)) t hA hB (Ak (h0 _ _)))
      | none =>
        rw [c1] at h0
        cases c2:Bb (EX n f) n 0 with
        | some t =>
          rw [c2] at h2
          exact A6 (Ax (Ax hL hL) hL) _ (AcO _ _ _ n f (ofNat (Aj (fun k=>Az (f k)) n)) (ofNat (Aj (fun k=>Au (f k)) n)) n t hA hB (Ak (h0 _ _)) (Ak (h2 _ _)))
        | none =>
          rw [c2] at h2
          show _ = some (V.tup [iV (EG n f).1,iV (EG n f).2],[])
          unfold EG
          cases c3:ilt (DZ n f) 2 with
          | true=>exact A6 (Ax (Ax hL hL) hL) _ (AcN _ _ _ n f (ofNat (Aj (fun k=>Az (f k)) n)) (ofNat (Aj (fun k=>Au (f k)) n)) n 0 hA hB c3 (Ak (h0 _ _)) (Ak (h2 _ _)))
          | false =>
            cases c4:ilt (EV n f) 2 with
            | true=>exact A6 (Ax (Ax hL hL) hL) _ (AcK _ _ _ n f (ofNat (Aj (fun k=>Az (f k)) n)) (ofNat (Aj (fun k=>Au (f k)) n)) n 0 hA hB c3 c4 (Ak (h0 _ _)) (Ak (h2 _ _)))
            | false =>
              show _ = some (V.tup [iV (Is n f).1,iV (Is n f).2],[])
              unfold Is crR
              cases c5:Bb (AG n (A0 (fun k=>Au (f k)) n) (fun i=>isW (f i)) 2) n 0 with
              | some t =>
                rw [show (Bb (AG n (pM n f) (fun i=>isW (f i)) 2) n 0) = some t from c5] at h4
                exact A6 (Ax (Ax (Ax hL hL) hL) hL) _ (AcJ _ _ _ _ n f (ofNat (Aj (fun k=>Az (f k)) n)) (ofNat (Aj (fun k=>Au (f k)) n)) n 0 t hA hB c3 c4 hF (Ak (h0 _ _)) (Ak (h2 _ _)) (Ak (h4 _ _)))
              | none =>
                rw [show (Bb (AG n (pM n f) (fun i=>isW (f i)) 2) n 0) = none from c5] at h4
                cases c6:Bb (AG n (A0 (fun k=>Az (f k)) n) (fun _=>true) 12) n 0 with
                | some t =>
                  rw [show (Bb (AG n (pO n f) (fun _=>true) 12) n 0) = some t from c6] at h6
                  exact A6 (Ax (Ax (Ax (Ax hL hL) hL) hL) hL) _ (AcR _ _ _ _ _ n f (ofNat (Aj (fun k=>Az (f k)) n)) (ofNat (Aj (fun k=>Au (f k)) n)) n 0 0 t hA hB c3 c4 hF (Ak (h0 _ _)) (Ak (h2 _ _)) (Ak (h4 _ _)) (Ak (h6 _ _)))
                | none =>
                  rw [show (Bb (AG n (pO n f) (fun _=>true) 12) n 0) = none from c6] at h6
                  exact A6 (Ax (Ax (Ax (Ax hL hL) hL) hL) hL) _ (AcI _ _ _ _ _ n f (ofNat (Aj (fun k=>Az (f k)) n)) (ofNat (Aj (fun k=>Au (f k)) n)) n 0 0 0 hA hB c3 c4 hF (Ak (h0 _ _)) (Ak (h2 _ _)) (Ak (h4 _ _)) (Ak (h6 _ _)))
def Kj (n:Nat) (_:Nat->E6):Lp:=⟨(bmK 133 0 [0,1,4,5,6,7,8,9]),0,bmK 133 0 [1,4,5,6,7,8],0,n+1⟩
def CP (n:Nat) (f:Nat->E6) (x y:Int) (i:Nat) (j:Nat->V):St:=⟨(jsV 133 0 j [(0,iV 2),(1,.sl 6 n (fun i=>eV (f i))),(4,iV 0),(5,iV 0),(6,nV n),(7,iV x),(8,iV y),(9,nV i)]),[]⟩
def Cj (n:Nat) (f:Nat->E6) (x y:Int) (_:Nat):Ex × St:=(.ex 0,⟨(jsV 133 0 (fun _=>.und) [(1,.sl 6 n (fun i=>eV (f i))),(4,iV 0),(5,iV 0),(6,nV n),(7,iV x),(8,iV y)]),[]⟩)
def QD (n:Nat) (f:Nat->E6) (x y:Int) (i:Nat):Ex × St:=(.rt,⟨(jsV 133 0 (fun _=>.und) [(1,.sl 6 n (fun i=>eV (f i))),(4,iV 30),(5,nV i),(6,nV n),(7,iV x),(8,iV y)]),[]⟩)
def QC (n:Nat) (f:Nat->E6) (x y:Int) (i:Nat):Ex × St:=(.rt,⟨(jsV 133 0 (fun _=>.und) [(1,.sl 6 n (fun i=>eV (f i))),(4,iV 5),(5,nV i),(6,nV n),(7,iV x),(8,iV y)]),[]⟩)
noncomputable def B8 (L:LT):St->T (Ex × St):=fun st=>A9 tab ⟨Ao CT,L,Gl⟩ (Av Try.f19 0) 0 st
section
variable (L:LT) (n:Nat) (f:Nat->E6) (x y:Int) (i:Nat)  (j:Nat->V)
include L n f x y i j
theorem Af6 (h0:ilt (ofNat i) (ofNat n) = false):Ai (B8 L) (Kj n f) (CP n f x y i j) = some ((.ex 0),⟨(jsV 133 0 (fun _=>.und) [(1,(.sl 6 n (fun i=>eV (f i)))),(4,(iV 0)),(5,(iV 0)),(6,(nV n)),(7,(iV x)),(8,(iV y))]),[]⟩):=Aa [false] [ilt (ofNat i) (ofNat n)] (by kernel_rfl) (by simp only [h0] <;> rfl)
theorem Af5 (h0:ilt (ofNat i) (ofNat n) = true) (h1:Af (ile 0 (ofNat i)) (ilt (ofNat i) (ofNat n)) = true) (h2:ieq (AM (f i)) 0 = false):Ai (B8 L) (Kj n f) (CP n f x y i j) = some (.rt,⟨(jsV 133 0 (fun _=>.und) [(1,(.sl 6 n (fun i=>eV (f i)))),(4,(iV 30)),(5,(nV i)),(6,(nV n)),(7,(iV x)),(8,(iV y))]),[]⟩):=Aa [true,true,true] [ilt (ofNat i) (ofNat n),Af (ile 0 (ofNat i)) (ilt (ofNat i) (ofNat n)),Am (ieq (AM (f i)) 0)] (by kernel_rfl) (by simp only [h1] <;> simp only [h0,h2] <;> rfl)
theorem Af4 (h0:ilt (ofNat i) (ofNat n) = true) (h1:Af (ile 0 (ofNat i)) (ilt (ofNat i) (ofNat n)) = true) (h2:ieq (AM (f i)) 0 = true) (h3:D7 2 (f i) = false):Ai (B8 L) (Kj n f) (CP n f x y i j) = some (.rt,⟨(jsV 133 0 (fun _=>.und) [(1,(.sl 6 n (fun i=>eV (f i)))),(4,(iV 5)),(5,(nV i)),(6,(nV n)),(7,(iV x)),(8,(iV y))]),[]⟩):=Aa [true,true,false,true,true] ((fun c0=>[ilt (ofNat i) (ofNat n),c0,Am (ieq (AM (f i)) 0),c0,Am (D7 2 (f i))]) (Af (ile 0 (ofNat i)) (ilt (ofNat i) (ofNat n)))) (by kernel_rfl) (by simp only [h1] <;> simp only [*] <;> rfl)
theorem AaW (h0:ilt (ofNat i) (ofNat n) = true) (h1:Af (ile 0 (ofNat i)) (ilt (ofNat i) (ofNat n)) = true) (h2:ieq (AM (f i)) 0 = true) (h3:D7 2 (f i) = true) (h4:Az (f i) = false) (h5:Au (f i) = false):Ai (B8 L) (Kj n f) (CP n f x y i j) = some (.nm,⟨(jsV 133 0 (fun _=>.und) [(0,(iV 2)),(1,(.sl 6 n (fun i=>eV (f i)))),(4,(iV 0)),(5,(iV 0)),(6,(nV n)),(7,(iV x)),(8,(iV y)),(9,(iV (wr .i64 (Ae (ofNat i) 1))))]),[]⟩):=Aa (bbK 9 171) ((fun c0=>[ilt (ofNat i) (ofNat n),c0,Am (ieq (AM (f i)) 0),c0,Am (D7 2 (f i)),c0,Az (f i),c0,Au (f i)]) (Af (ile 0 (ofNat i)) (ilt (ofNat i) (ofNat n)))) (by kernel_rfl) (by simp only [h1] <;> simp only [*] <;> rfl)
theorem AaX (h0:ilt (ofNat i) (ofNat n) = true) (h1:Af (ile 0 (ofNat i)) (ilt (ofNat i) (ofNat n)) = true) (h2:ieq (AM (f i)) 0 = true) (h3:D7 2 (f i) = true) (h4:Az (f i) = false) (h5:Au (f i) = true):Ai (B8 L) (Kj n f) (CP n f x y i j) = some (.nm,⟨(jsV 133 0 (fun _=>.und) [(0,(iV 2)),(1,(.sl 6 n (fun i=>eV (f i)))),(4,(iV 0)),(5,(iV 0)),(6,(nV n)),(7,(iV x)),(8,(iV (wr .i64 (Ae y 1)))),(9,(iV (wr .i64 (Ae (ofNat i) 1))))]),[]⟩):=Aa (bbK 9 427) ((fun c0=>[ilt (ofNat i) (ofNat n),c0,Am (ieq (AM (f i)) 0),c0,Am (D7 2 (f i)),c0,Az (f i),c0,Au (f i)]) (Af (ile 0 (ofNat i)) (ilt (ofNat i) (ofNat n)))) (by kernel_rfl) (by simp only [h1] <;> simp only [*] <;> rfl)
theorem AaU (h0:ilt (ofNat i) (ofNat n) = true) (h1:Af (ile 0 (ofNat i)) (ilt (ofNat i) (ofNat n)) = true) (h2:ieq (AM (f i)) 0 = true) (h3:D7 2 (f i) = true) (h4:Az (f i) = true) (h5:Au (f i) = false):Ai (B8 L) (Kj n f) (CP n f x y i j) = some (.nm,⟨(jsV 133 0 (fun _=>.und) [(0,(iV 2)),(1,(.sl 6 n (fun i=>eV (f i)))),(4,(iV 0)),(5,(iV 0)),(6,(nV n)),(7,(iV (wr .i64 (Ae x 1)))),(8,(iV y)),(9,(iV (wr .i64 (Ae (ofNat i) 1))))]),[]⟩):=Aa (bbK 9 235) ((fun c0=>[ilt (ofNat i) (ofNat n),c0,Am (ieq (AM (f i)) 0),c0,Am (D7 2 (f i)),c0,Az (f i),c0,Au (f i)]) (Af (ile 0 (ofNat i)) (ilt (ofNat i) (ofNat n)))) (by kernel_rfl) (by simp only [h1] <;> simp only [*] <;> rfl)
theorem AaV (h0:ilt (ofNat i) (ofNat n) = true) (h1:Af (ile 0 (ofNat i)) (ilt (ofNat i) (ofNat n)) = true) (h2:ieq (AM (f i)) 0 = true) (h3:D7 2 (f i) = true) (h4:Az (f i) = true) (h5:Au (f i) = true):Ai (B8 L) (Kj n f) (CP n f x y i j) = some (.nm,⟨(jsV 133 0 (fun _=>.und) [(0,(iV 2)),(1,(.sl 6 n (fun i=>eV (f i)))),(4,(iV 0)),(5,(iV 0)),(6,(nV n)),(7,(iV (wr .i64 (Ae x 1)))),(8,(iV (wr .i64 (Ae y 1)))),(9,(iV (wr .i64 (Ae (ofNat i) 1))))]),[]⟩):=Aa (bbK 9 491) ((fun c0=>[ilt (ofNat i) (ofNat n),c0,Am (ieq (AM (f i)) 0),c0,Am (D7 2 (f i)),c0,Az (f i),c0,Au (f i)]) (Af (ile 0 (ofNat i)) (ilt (ofNat i) (ofNat n)))) (by kernel_rfl) (by simp only [h1] <;> simp only [*] <;> rfl)
end
def Fa (n:Nat) (f:Nat->E6) :Nat->V:=lkV A7 [(17,(iV 2)),(18,(bV (Am (ieq 2 1)))),(19,(bV (Am (ieq 2 1)))),(20,(iV 2)),(21,(bV (Am (ieq 2 2)))),(22,(bV (Am (ieq 2 2)))),(23,(.sl 6 n (fun i=>eV (f i)))),(24,(nV n)),(25,(nV n)),(26,(bV (ilt (ofNat n) 2))),(27,(bV (ilt (ofNat n) 2))),(28,(nV n)),(29,(bV (ilt 16 (ofNat n)))),(30,(bV (ilt 16 (ofNat n))))]
def Kn (n:Nat) (_:Nat->E6):Lp:=⟨(bmK 133 0 [1,4,5,6,7,8,12]),0,bmK 133 0 [1,4,5,6,7,8],0,n+1⟩
def Cw (n:Nat) (f:Nat->E6) (x y:Int) (i:Nat) (j:Nat->V):St:=⟨(jsV 133 0 j [(1,.sl 6 n (fun i=>eV (f i))),(4,iV 0),(5,iV 0),(6,nV n),(7,iV x),(8,iV y),(12,nV i)]),[]⟩
def BP (n:Nat) (f:Nat->E6) (x y:Int) (_:Nat):Ex × St:=(.ex 2,⟨(jsV 133 0 (fun _=>.und) [(1,.sl 6 n (fun i=>eV (f i))),(4,iV 0),(5,iV 0),(6,nV n),(7,iV x),(8,iV y)]),[]⟩)
def GL (n:Nat) (f:Nat->E6) (x y:Int) (i:Nat):Ex × St:=(.rt,⟨(jsV 133 0 (fun _=>.und) [(1,.sl 6 n (fun i=>eV (f i))),(4,iV 41),(5,nV i),(6,nV n),(7,iV x),(8,iV y)]),[]⟩)
noncomputable def BG (L:LT):St->T (Ex × St):=fun st=>A9 tab ⟨Ao CT,L,Gl⟩ (Av Try.f19 2) 2 st
section
variable (L:LT) (n:Nat) (f:Nat->E6) (x y:Int) (i:Nat)  (j:Nat->V)
include L n f x y i j
theorem Afz (h0:ilt (ofNat i) (ofNat n) = false):Ai (BG L) (Kn n f) (Cw n f x y i j) = some ((.ex 2),⟨(jsV 133 0 (fun _=>.und) [(1,(.sl 6 n (fun i=>eV (f i)))),(4,(iV 0)),(5,(iV 0)),(6,(nV n)),(7,(iV x)),(8,(iV y))]),[]⟩):=Aa [false] [ilt (ofNat i) (ofNat n)] (by kernel_rfl) (by simp only [h0] <;> rfl)
theorem Afy (h0:ilt (ofNat i) (ofNat n) = true) (h1:Af (ile 0 (ofNat i)) (ilt (ofNat i) (ofNat n)) = true) (h2:ieq (ofNat n) 0 = false) (h3:Af (ile 0 (Ad (wr .i64 (Ae (ofNat i) 1)) (ofNat n))) (ilt (Ad (wr .i64 (Ae (ofNat i) 1)) (ofNat n)) (ofNat n)) = true) (h4:ieq ((f i)).dst ((f (toN (Ad (wr .i64 (Ae (ofNat i) 1)) (ofNat n))))).src = false):Ai (BG L) (Kn n f) (Cw n f x y i j) = some (.rt,⟨(jsV 133 0 (fun _=>.und) [(1,(.sl 6 n (fun i=>eV (f i)))),(4,(iV 41)),(5,(nV i)),(6,(nV n)),(7,(iV x)),(8,(iV y))]),[]⟩):=Aa [true,true,false,true,true] [ilt (ofNat i) (ofNat n),Af (ile 0 (ofNat i)) (ilt (ofNat i) (ofNat n)),ieq (ofNat n) 0,Af (ile 0 (Ad (wr .i64 (Ae (ofNat i) 1)) (ofNat n))) (ilt (Ad (wr .i64 (Ae (ofNat i) 1)) (ofNat n)) (ofNat n)),Am (ieq ((f i)).dst ((f (toN (Ad (wr .i64 (Ae (ofNat i) 1)) (ofNat n))))).src)] (by kernel_rfl) (by simp only [h1,h3] <;> simp only [*] <;> rfl)
theorem Afx (h0:ilt (ofNat i) (ofNat n) = true) (h1:Af (ile 0 (ofNat i)) (ilt (ofNat i) (ofNat n)) = true) (h2:ieq (ofNat n) 0 = false) (h3:Af (ile 0 (Ad (wr .i64 (Ae (ofNat i) 1)) (ofNat n))) (ilt (Ad (wr .i64 (Ae (ofNat i) 1)) (ofNat n)) (ofNat n)) = true) (h4:ieq ((f i)).dst ((f (toN (Ad (wr .i64 (Ae (ofNat i) 1)) (ofNat n))))).src = true):Ai (BG L) (Kn n f) (Cw n f x y i j) = some (.nm,⟨(jsV 133 0 (fun _=>.und) [(1,(.sl 6 n (fun i=>eV (f i)))),(4,(iV 0)),(5,(iV 0)),(6,(nV n)),(7,(iV x)),(8,(iV y)),(12,(iV (wr .i64 (Ae (ofNat i) 1))))]),[]⟩):=Aa [true,true,false,true,false] [ilt (ofNat i) (ofNat n),Af (ile 0 (ofNat i)) (ilt (ofNat i) (ofNat n)),ieq (ofNat n) 0,Af (ile 0 (Ad (wr .i64 (Ae (ofNat i) 1)) (ofNat n))) (ilt (Ad (wr .i64 (Ae (ofNat i) 1)) (ofNat n)) (ofNat n)),Am (ieq ((f i)).dst ((f (toN (Ad (wr .i64 (Ae (ofNat i) 1)) (ofNat n))))).src)] (by kernel_rfl) (by simp only [h1,h3] <;> simp only [*] <;> rfl)
end
def D2 (_:Nat) (_:Nat->E6) (_ _:Int) (_:Nat):Nat->V:=lkV A7 [(0,.und),(2,.und),(3,.und),(9,.und),(10,.und),(11,.und),(13,.und),(14,.und),(15,.und),(16,.und),(17,.und),(18,.und),(19,.und),(20,.und),(21,.und),(22,.und),(23,.und),(24,.und),(25,.und),(26,.und),(27,.und),(28,.und),(29,.und),(30,.und),(31,.und),(32,.und),(33,.und),(34,.und),(35,.und),(36,.und),(37,.und),(38,.und),(39,.und),(40,.und),(41,.und),(42,.und),(43,.und),(44,.und),(45,.und),(46,.und),(47,.und),(48,.und),(49,.und),(50,.und),(51,.und),(52,.und),(53,.und),(54,.und),(55,.und),(56,.und),(57,.und),(58,.und),(59,.und),(60,.und),(61,.und),(62,.und),(63,.und),(64,.und),(65,.und),(66,.und),(67,.und),(68,.und),(69,.und),(70,.und),(71,.und),(72,.und),(73,.und),(74,.und),(75,.und),(76,.und),(77,.und),(78,.und),(79,.und),(80,.und),(81,.und),(82,.und),(83,.und),(84,.und),(85,.und),(86,.und),(87,.und),(88,.und),(89,.und),(90,.und),(91,.und),(92,.und),(93,.und),(94,.und),(95,.und),(96,.und),(97,.und),(98,.und),(99,.und),(100,.und),(101,.und),(102,.und),(103,.und),(104,.und),(105,.und),(106,.und),(107,.und),(108,.und),(109,.und),(110,.und),(111,.und),(112,.und),(113,.und),(114,.und),(115,.und),(116,.und),(117,.und),(118,.und),(119,.und),(120,.und),(121,.und),(122,.und),(123,.und),(124,.und),(125,.und),(126,.und),(127,.und),(128,.und),(129,.und),(130,.und),(131,.und),(132,.und)]
def IO (n:Nat) (_:Nat->E6):Lp:=⟨(bmK 133 0 [1,4,5,6,13,14,15]),2,bmK 133 0 [1,4,5,6,13],2,n+1⟩
def DQ (n:Nat) (f:Nat->E6) (u v:Nat->Int) (i:Nat) (j:Nat->V):St:=⟨(jsV 133 0 j [(1,.sl 6 n (fun i=>eV (f i))),(4,iV 0),(5,iV 0),(6,nV n),(13,.ref 0),(14,.ref 1),(15,nV i)]),[.row 3 1 n (fun k=>iV (u k)),.row 3 1 n (fun k=>iV (v k))]⟩
def Ir (n:Nat) (f:Nat->E6) (u v:Nat->Int) (_:Nat):Ex × St:=(.ex 4,⟨(jsV 133 0 (fun _=>.und) [(1,.sl 6 n (fun i=>eV (f i))),(4,iV 0),(5,iV 0),(6,nV n),(13,.ref 0)]),[.row 3 1 n (fun k=>iV (u k)),.row 3 1 n (fun k=>iV (v k))]⟩)
def Oc (n:Nat) (f:Nat->E6) (u v:Nat->Int) (i:Nat):Ex × St:=(.rt,⟨(jsV 133 0 (fun _=>.und) [(1,.sl 6 n (fun i=>eV (f i))),(4,iV 44),(5,nV i),(6,nV n),(13,.ref 0)]),[.row 3 1 n (fun k=>iV (u k)),.row 3 1 n (fun k=>iV (v k))]⟩)
noncomputable def C5 (L:LT):St->T (Ex × St):=fun st=>A9 tab ⟨Ao CT,L,Gl⟩ (Av Try.f19 4) 4 st
section
variable (L:LT) (n:Nat) (f:Nat->E6) (u v:Nat->Int) (i:Nat)  (j:Nat->V)
include L n f u v i j
theorem AeN (h0:ilt (ofNat i) (ofNat n) = false):Ai (C5 L) (IO n f) (DQ n f u v i j) = some ((.ex 4),⟨(jsV 133 0 (fun _=>.und) [(1,(.sl 6 n (fun i=>eV (f i)))),(4,(iV 0)),(5,(iV 0)),(6,(nV n)),(13,(.ref 0))]),[.row 3 1 n (fun k=>iV (u k)),.row 3 1 n (fun k=>iV (v k))]⟩):=Aa [false] [ilt (ofNat i) (ofNat n)] (by kernel_rfl) (by simp only [h0] <;> rfl)
theorem AeQ (h0:ilt (ofNat i) (ofNat n) = true) (h1:Af (ile 0 (ofNat i)) (ilt (ofNat i) (ofNat n)) = true) (h2:ieq ((f i)).src 2 = false):Ai (C5 L) (IO n f) (DQ n f u v i j) = some (.nm,⟨(jsV 133 0 (fun _=>.und) [(1,(.sl 6 n (fun i=>eV (f i)))),(4,(iV 0)),(5,(iV 0)),(6,(nV n)),(13,(.ref 0)),(14,(.ref 1)),(15,(iV (wr .i64 (Ae (ofNat i) 1))))]),[.row 3 1 n (fun k=>iV (u k)),.row 3 1 n (fun k=>iV (v k))]⟩):=Aa (bbK 12 3) ((fun c0=>[ilt (ofNat i) (ofNat n),Af (ile 0 (ofNat i)) (ilt (ofNat i) (ofNat n)),c0,c0,c0,c0,c0,c0,c0,c0,c0,false]) (ieq ((f i)).src 2)) (by kernel_rfl) (by simp only [h1] <;> simp only [h0,h2] <;> rfl)
theorem AeP (h0:ilt (ofNat i) (ofNat n) = true) (h1:Af (ile 0 (ofNat i)) (ilt (ofNat i) (ofNat n)) = true) (h2:ieq ((f i)).src 2 = true) (h15:nlt i n = true) (h3:AN n n = true) (h4:Ah n = true) (h5:ilt 2 (Ea n v (fun i=>bor (Am true) (isW (f i))) (v i)) = false):Ai (C5 L) (IO n f) (DQ n f u v i j) = some (.nm,⟨(jsV 133 0 (fun _=>.und) [(1,(.sl 6 n (fun i=>eV (f i)))),(4,(iV 0)),(5,(iV 0)),(6,(nV n)),(13,(.ref 0)),(14,(.ref 1)),(15,(iV (wr .i64 (Ae (ofNat i) 1))))]),[.row 3 1 n (fun k=>iV (u k)),.row 3 1 n (fun k=>iV (v k))]⟩):=Aa (bbK 18 131071) ((fun c0 c1 c2=>[ilt (ofNat i) (ofNat n),c0,c1,c1,c1,c1,c1,c0,c1,nlt i n,c1,c2,c2,AN n n,Ah n,c1,c1,ilt 2 (Ea n v (fun i=>bor (Am true) (isW (f i))) (v i))]) (Af (ile 0 (ofNat i)) (ilt (ofNat i) (ofNat n))) (ieq ((f i)).src 2) (An n (fun _=>true))) (by kernel_rfl) (by simp only [h1] <;> simp only [*,Ar] <;> rfl)
theorem AeO (h0:ilt (ofNat i) (ofNat n) = true) (h1:Af (ile 0 (ofNat i)) (ilt (ofNat i) (ofNat n)) = true) (h2:ieq ((f i)).src 2 = true) (h15:nlt i n = true) (h3:AN n n = true) (h4:Ah n = true) (h5:ilt 2 (Ea n v (fun i=>bor (Am true) (isW (f i))) (v i)) = true):Ai (C5 L) (IO n f) (DQ n f u v i j) = some (.rt,⟨(jsV 133 0 (fun _=>.und) [(1,(.sl 6 n (fun i=>eV (f i)))),(4,(iV 44)),(5,(nV i)),(6,(nV n)),(13,(.ref 0))]),[.row 3 1 n (fun k=>iV (u k)),.row 3 1 n (fun k=>iV (v k))]⟩):=Aa (bbK 18 262143) ((fun c0 c1 c2=>[ilt (ofNat i) (ofNat n),c0,c1,c1,c1,c1,c1,c0,c1,nlt i n,c1,c2,c2,AN n n,Ah n,c1,c1,ilt 2 (Ea n v (fun i=>bor (Am true) (isW (f i))) (v i))]) (Af (ile 0 (ofNat i)) (ilt (ofNat i) (ofNat n))) (ieq ((f i)).src 2) (An n (fun _=>true))) (by kernel_rfl) (by simp only [h1] <;> simp only [*,Ar] <;> rfl)
end
def IU (n:Nat) (f:Nat->E6) (x y:Int) (_ _:Nat):Nat->V:=lkV A7 [(0,.und),(2,.und),(3,.und),(7,(iV x)),(8,(iV y)),(9,.und),(10,.und),(11,.und),(12,.und),(16,.und),(17,.und),(18,.und),(19,.und),(20,.und),(21,.und),(22,.und),(23,.und),(24,.und),(25,.und),(26,.und),(27,.und),(28,.und),(29,.und),(30,.und),(31,.und),(32,.und),(33,.und),(34,.und),(35,.und),(36,.und),(37,.und),(38,.und),(39,.und),(40,.und),(41,.und),(42,.und),(43,.und),(44,.und),(45,.und),(46,.und),(47,.und),(48,.und),(49,.und),(50,.und),(51,.und),(52,.und),(53,.und),(54,.und),(55,.und),(56,.und),(57,.und),(58,.und),(59,.und),(60,.und),(61,.und),(62,.und),(63,.und),(64,.und),(65,.und),(66,.und),(67,.und),(68,.und),(69,.und),(70,.und),(71,.und),(72,.und),(73,.und),(74,.und),(75,.und),(76,.und),(77,.und),(78,.und),(79,.und),(80,.und),(81,.und),(82,.und),(83,.und),(84,.und),(85,.und),(86,.und),(87,.und),(88,.und),(89,(iV x)),(90,(bV (ilt x 2))),(91,(iV y)),(92,(bV (ilt y 2))),(93,(.sl 6 n (fun i=>eV (f i)))),(94,(.ref 0)),(95,(.sl 6 n (fun i=>eV (f i)))),(96,(.ref 1)),(97,.und),(98,.und),(99,.und),(100,.und),(101,.und),(102,.und),(103,.und),(104,.und),(105,.und),(106,.und),(107,.und),(108,.und),(109,.und),(110,.und),(111,.und),(112,.und),(113,.und),(114,.und),(115,.und),(116,.und),(117,.und),(118,.und),(119,.und),(120,.und),(121,.und),(122,.und),(123,.und),(124,.und),(125,.und),(126,.und),(127,.und),(128,.und),(129,.und),(130,.und),(131,.und),(132,.und)]
def Kl (n:Nat) (_:Nat->E6):Lp:=⟨(bmK 133 0 [1,4,5,6,13,16]),2,bmK 133 0 [4,5],0,n+1⟩
def FJ (n:Nat) (f:Nat->E6) (u v:Nat->Int) (i:Nat) (j:Nat->V):St:=⟨(jsV 133 0 j [(1,.sl 6 n (fun i=>eV (f i))),(4,iV 0),(5,iV 0),(6,nV n),(13,.ref 0),(16,nV i)]),[.row 3 1 n (fun k=>iV (u k)),.row 3 1 n (fun k=>iV (v k))]⟩
def NZ (_:Nat) (_:Nat->E6) (_ _:Nat->Int) (_:Nat):Ex × St:=(.ex 6,⟨(jsV 133 0 (fun _=>.und) [(4,iV 0),(5,iV 0)]),[]⟩)
def Oa (_:Nat) (_:Nat->E6) (_ _:Nat->Int) (i:Nat):Ex × St:=(.rt,⟨(jsV 133 0 (fun _=>.und) [(4,iV 45),(5,nV i)]),[]⟩)
noncomputable def DL (L:LT):St->T (Ex × St):=fun st=>A9 tab ⟨Ao CT,L,Gl⟩ (Av Try.f19 6) 6 st
section
variable (L:LT) (n:Nat) (f:Nat->E6) (u v:Nat->Int) (i:Nat)  (j:Nat->V)
include L n f u v i j
theorem Ae3 (h0:ilt (ofNat i) (ofNat n) = false):Ai (DL L) (Kl n f) (FJ n f u v i j) = some ((.ex 6),⟨(jsV 133 0 (fun _=>.und) [(4,(iV 0)),(5,(iV 0))]),[]⟩):=Aa [false] [ilt (ofNat i) (ofNat n)] (by kernel_rfl) (by simp only [h0] <;> rfl)
theorem Ae5 (h0:ilt (ofNat i) (ofNat n) = true) (h1:Af (ile 0 (ofNat i)) (ilt (ofNat i) (ofNat n)) = true) (h14:nlt i n = true) (h2:AN n n = true) (h3:Ah n = true) (h4:ilt 12 (Ea n u (fun i=>bor (Am false) (isW (f i))) (u i)) = false):Ai (DL L) (Kl n f) (FJ n f u v i j) = some (.nm,⟨(jsV 133 0 (fun _=>.und) [(1,(.sl 6 n (fun i=>eV (f i)))),(4,(iV 0)),(5,(iV 0)),(6,(nV n)),(13,(.ref 0)),(16,(iV (wr .i64 (Ae (ofNat i) 1))))]),[.row 3 1 n (fun k=>iV (u k)),.row 3 1 n (fun k=>iV (v k))]⟩):=Aa (bbK 8 127) [ilt (ofNat i) (ofNat n),Af (ile 0 (ofNat i)) (ilt (ofNat i) (ofNat n)),nlt i n,An n (fun _=>true),An n (fun _=>true),AN n n,Ah n,ilt 12 (Ea n u (fun i=>bor (Am false) (isW (f i))) (u i))] (by kernel_rfl) (by simp only [h1] <;> simp only [*,Ar] <;> rfl)
theorem Ae4 (h0:ilt (ofNat i) (ofNat n) = true) (h1:Af (ile 0 (ofNat i)) (ilt (ofNat i) (ofNat n)) = true) (h14:nlt i n = true) (h2:AN n n = true) (h3:Ah n = true) (h4:ilt 12 (Ea n u (fun i=>bor (Am false) (isW (f i))) (u i)) = true):Ai (DL L) (Kl n f) (FJ n f u v i j) = some (.rt,⟨(jsV 133 0 (fun _=>.und) [(4,(iV 45)),(5,(nV i))]),[]⟩):=Aa (bbK 8 255) [ilt (ofNat i) (ofNat n),Af (ile 0 (ofNat i)) (ilt (ofNat i) (ofNat n)),nlt i n,An n (fun _=>true),An n (fun _=>true),AN n n,Ah n,ilt 12 (Ea n u (fun i=>bor (Am false) (isW (f i))) (u i))] (by kernel_rfl) (by simp only [h1] <;> simp only [*,Ar] <;> rfl)
end
def Mt (_:Nat) (_:Nat->E6) (_ _:Int) (_ _:Nat) (_ _:Nat->Int) (_:Nat):Nat->V:=lkV A7 [(0,.und),(2,.und),(3,.und),(7,.und),(8,.und),(9,.und),(10,.und),(11,.und),(12,.und),(14,.und),(15,.und),(17,.und),(18,.und),(19,.und),(20,.und),(21,.und),(22,.und),(23,.und),(24,.und),(25,.und),(26,.und),(27,.und),(28,.und),(29,.und),(30,.und),(31,.und),(32,.und),(33,.und),(34,.und),(35,.und),(36,.und),(37,.und),(38,.und),(39,.und),(40,.und),(41,.und),(42,.und),(43,.und),(44,.und),(45,.und),(46,.und),(47,.und),(48,.und),(49,.und),(50,.und),(51,.und),(52,.und),(53,.und),(54,.und),(55,.und),(56,.und),(57,.und),(58,.und),(59,.und),(60,.und),(61,.und),(62,.und),(63,.und),(64,.und),(65,.und),(66,.und),(67,.und),(68,.und),(69,.und),(70,.und),(71,.und),(72,.und),(73,.und),(74,.und),(75,.und),(76,.und),(77,.und),(78,.und),(79,.und),(80,.und),(81,.und),(82,.und),(83,.und),(84,.und),(85,.und),(86,.und),(87,.und),(88,.und),(89,.und),(90,.und),(91,.und),(92,.und),(93,.und),(94,.und),(95,.und),(96,.und),(97,.und),(98,.und),(99,.und),(100,.und),(101,.und),(102,.und),(103,.und),(104,.und),(105,.und),(106,.und),(107,.und),(108,.und),(109,.und),(110,.und),(111,.und),(112,.und),(113,.und),(114,.und),(115,.und),(116,.und),(117,.und),(118,.und),(119,.und),(120,.und),(121,.und),(122,.und),(123,.und),(124,.und),(125,.und),(126,.und),(127,.und),(128,.und),(129,.und),(130,.und),(131,.und),(132,.und)]
section
variable (L:LT) (p0:PT) (n:Nat) (f:Nat->E6) (x y:Int) (i:Nat)
include L p0 n f x y i
theorem Ada (h0:ilt (ofNat n) 2 = false) (h1:ilt 16 (ofNat n) = false) (hp0:p0 (B8 (onP 0 p0 (QD n f x y i) L)) (CP n f 0 0 0 (Fa n f )) = true):(A1 (Al tab ⟨Ao CT,onP 0 p0 (QD n f x y i) L,Gl⟩ Try.f19 [iV 2,A2 n f] [])).sem = some ((.tup [iV 30,nV i]),[]):=Aa (bbK 9 263) ((fun c0 c1=>[c0,c0,c0,Am (ieq 2 2),c1,c1,c1,ilt 16 (ofNat n),p0 (B8 (onP 0 p0 (QD n f x y i) L)) (CP n f 0 0 0 (Fa n f ))]) (Am (ieq 2 1)) (ilt (ofNat n) 2)) (by kernel_rfl) (by simp only [hp0] <;> simp only [h0,h1] <;> rfl)
theorem AcZ (h0:ilt (ofNat n) 2 = false) (h1:ilt 16 (ofNat n) = false) (hp0:p0 (B8 (onP 0 p0 (QC n f x y i) L)) (CP n f 0 0 0 (Fa n f )) = true):(A1 (Al tab ⟨Ao CT,onP 0 p0 (QC n f x y i) L,Gl⟩ Try.f19 [iV 2,A2 n f] [])).sem = some ((.tup [iV 5,nV i]),[]):=Aa (bbK 9 263) ((fun c0 c1=>[c0,c0,c0,Am (ieq 2 2),c1,c1,c1,ilt 16 (ofNat n),p0 (B8 (onP 0 p0 (QC n f x y i) L)) (CP n f 0 0 0 (Fa n f ))]) (Am (ieq 2 1)) (ilt (ofNat n) 2)) (by kernel_rfl) (by simp only [hp0] <;> simp only [h0,h1] <;> rfl)
end
section
variable (L:LT) (p0:PT) (p2:PT) (n:Nat) (f:Nat->E6) (x y:Int) (i:Nat) (i2:Nat)
include L p0 p2 n f x y i i2
theorem AcY (h0:ilt (ofNat n) 2 = false) (h1:ilt 16 (ofNat n) = false) (hp0:p0 (B8 (onP 0 p0 (Cj n f x y i) (onP 2 p2 (GL n f x y i2) L))) (CP n f 0 0 0 (Fa n f )) = true) (hp2:p2 (BG (onP 0 p0 (Cj n f x y i) (onP 2 p2 (GL n f x y i2) L))) (Cw n f x y 0 (D2 n f x y i)) = true):(A1 (Al tab ⟨Ao CT,onP 0 p0 (Cj n f x y i) (onP 2 p2 (GL n f x y i2) L),Gl⟩ Try.f19 [iV 2,A2 n f] [])).sem = some ((.tup [iV 41,nV i2]),[]):=Aa (bbK 10 775) ((fun c0 c1=>[c0,c0,c0,Am (ieq 2 2),c1,c1,c1,ilt 16 (ofNat n),p0 (B8 (onP 0 p0 (Cj n f x y i) (onP 2 p2 (GL n f x y i2) L))) (CP n f 0 0 0 (Fa n f )),p2 (BG (onP 0 p0 (Cj n f x y i) (onP 2 p2 (GL n f x y i2) L))) (Cw n f x y 0 (D2 n f x y i))]) (Am (ieq 2 1)) (ilt (ofNat n) 2)) (by kernel_rfl) (by simp only [hp0,hp2] <;> simp only [h0,h1] <;> rfl)
theorem AcX (h0:ilt (ofNat n) 2 = false) (h1:ilt 16 (ofNat n) = false) (h2:ilt x 2 = true) (hp0:p0 (B8 (onP 0 p0 (Cj n f x y i) (onP 2 p2 (BP n f x y i2) L))) (CP n f 0 0 0 (Fa n f )) = true) (hp2:p2 (BG (onP 0 p0 (Cj n f x y i) (onP 2 p2 (BP n f x y i2) L))) (Cw n f x y 0 (D2 n f x y i)) = true):(A1 (Al tab ⟨Ao CT,onP 0 p0 (Cj n f x y i) (onP 2 p2 (BP n f x y i2) L),Gl⟩ Try.f19 [iV 2,A2 n f] [])).sem = some ((.tup [iV 42,iV 0]),[]):=Aa (bbK 11 1799) ((fun c0 c1=>[c0,c0,c0,Am (ieq 2 2),c1,c1,c1,ilt 16 (ofNat n),p0 (B8 (onP 0 p0 (Cj n f x y i) (onP 2 p2 (BP n f x y i2) L))) (CP n f 0 0 0 (Fa n f )),p2 (BG (onP 0 p0 (Cj n f x y i) (onP 2 p2 (BP n f x y i2) L))) (Cw n f x y 0 (D2 n f x y i)),ilt x 2]) (Am (ieq 2 1)) (ilt (ofNat n) 2)) (by kernel_rfl) (by simp only [hp0,hp2] <;> simp only [*] <;> rfl)
theorem AcU (h0:ilt (ofNat n) 2 = false) (h1:ilt 16 (ofNat n) = false) (h2:ilt x 2 = false) (h3:ilt y 2 = true) (hp0:p0 (B8 (onP 0 p0 (Cj n f x y i) (onP 2 p2 (BP n f x y i2) L))) (CP n f 0 0 0 (Fa n f )) = true) (hp2:p2 (BG (onP 0 p0 (Cj n f x y i) (onP 2 p2 (BP n f x y i2) L))) (Cw n f x y 0 (D2 n f x y i)) = true):(A1 (Al tab ⟨Ao CT,onP 0 p0 (Cj n f x y i) (onP 2 p2 (BP n f x y i2) L),Gl⟩ Try.f19 [iV 2,A2 n f] [])).sem = some ((.tup [iV 43,iV 0]),[]):=Aa (bbK 12 2823) ((fun c0 c1=>[c0,c0,c0,Am (ieq 2 2),c1,c1,c1,ilt 16 (ofNat n),p0 (B8 (onP 0 p0 (Cj n f x y i) (onP 2 p2 (BP n f x y i2) L))) (CP n f 0 0 0 (Fa n f )),p2 (BG (onP 0 p0 (Cj n f x y i) (onP 2 p2 (BP n f x y i2) L))) (Cw n f x y 0 (D2 n f x y i)),ilt x 2,ilt y 2]) (Am (ieq 2 1)) (ilt (ofNat n) 2)) (by kernel_rfl) (by simp only [hp0,hp2] <;> simp only [*] <;> rfl)
end
noncomputable abbrev KZ (L:LT) (p0:PT) (p2:PT) (p4:PT) (n:Nat) (f:Nat->E6) (x:Int) (y:Int) (i:Nat) (i2:Nat) (i4:Nat):LT:=onP 0 p0 (Cj n f x y i) (onP 2 p2 (BP n f x y i2) (onP 4 p4 (Oc n f (pO n f) (pM n f) i4) L))
theorem AcT (L:LT) (p0:PT) (p2:PT) (p4:PT) (n:Nat) (f:Nat->E6) (x y:Int) (i:Nat) (i2 i4:Nat) (h0:ilt (ofNat n) 2 = false) (h1:ilt 16 (ofNat n) = false) (h2:ilt x 2 = false) (h3:ilt y 2 = false) (h4:AL n = true) (hp0:p0 (B8 (KZ L p0 p2 p4 n f x y i i2 i4)) (CP n f 0 0 0 (Fa n f )) = true) (hp2:p2 (BG (KZ L p0 p2 p4 n f x y i i2 i4)) (Cw n f x y 0 (D2 n f x y i)) = true) (hp4:p4 (C5 (KZ L p0 p2 p4 n f x y i i2 i4)) (DQ n f (pO n f) (pM n f) 0 (IU n f x y i i2)) = true):(A1 (Al tab ⟨Ao CT,onP 0 p0 (Cj n f x y i) (onP 2 p2 (BP n f x y i2) (onP 4 p4 (Oc n f (pO n f) (pM n f) i4) L)),Gl⟩ Try.f19 [iV 2,A2 n f] [])).sem = some ((.tup [iV 44,nV i4]),[]):=Aa (bbK 17 127751) ((fun c0 c1 c2 c3=>[c0,c0,c0,Am (ieq 2 2),c1,c1,c1,ilt 16 (ofNat n),p0 (B8 (KZ L p0 p2 p4 n f x y i i2 i4)) (CP n f 0 0 0 (Fa n f )),p2 (BG (KZ L p0 p2 p4 n f x y i i2 i4)) (Cw n f x y 0 (D2 n f x y i)),ilt x 2,ilt y 2,c2,c3,c2,c3,p4 (C5 (KZ L p0 p2 p4 n f x y i i2 i4)) (DQ n f (pO n f) (pM n f) 0 (IU n f x y i i2))]) (Am (ieq 2 1)) (ilt (ofNat n) 2) (An n (fun _=>true)) (AL n)) (by kernel_rfl) (by simp only [hp0,hp2,hp4] <;> simp only [*,Ar] <;> rfl)
section
variable (L:LT) (p0:PT) (p2:PT) (p4:PT) (p6:PT) (n:Nat) (f:Nat->E6) (x y:Int) (i:Nat) (i2 i4 i6:Nat)
include L p0 p2 p4 p6 n f x y i i2 i4 i6
noncomputable abbrev HY (L:LT) (p0:PT) (p2:PT) (p4:PT) (p6:PT) (n:Nat) (f:Nat->E6) (x:Int) (y:Int) (i:Nat) (i2:Nat) (i4:Nat) (i6:Nat):LT:=onP 0 p0 (Cj n f x y i) (onP 2 p2 (BP n f x y i2) (onP 4 p4 (Ir n f (pO n f) (pM n f) i4) (onP 6 p6 (Oa n f (pO n f) (pM n f) i6) L)))
theorem Adb (h0:ilt (ofNat n) 2 = false) (h1:ilt 16 (ofNat n) = false) (h2:ilt x 2 = false) (h3:ilt y 2 = false) (h4:AL n = true) (hp0:p0 (B8 (HY L p0 p2 p4 p6 n f x y i i2 i4 i6)) (CP n f 0 0 0 (Fa n f )) = true) (hp2:p2 (BG (HY L p0 p2 p4 p6 n f x y i i2 i4 i6)) (Cw n f x y 0 (D2 n f x y i)) = true) (hp4:p4 (C5 (HY L p0 p2 p4 p6 n f x y i i2 i4 i6)) (DQ n f (pO n f) (pM n f) 0 (IU n f x y i i2)) = true) (hp6:p6 (DL (HY L p0 p2 p4 p6 n f x y i i2 i4 i6)) (FJ n f (pO n f) (pM n f) 0 (Mt n f x y i i2 (pO n f) (pM n f) i4)) = true):(A1 (Al tab ⟨Ao CT,onP 0 p0 (Cj n f x y i) (onP 2 p2 (BP n f x y i2) (onP 4 p4 (Ir n f (pO n f) (pM n f) i4) (onP 6 p6 (Oa n f (pO n f) (pM n f) i6) L))),Gl⟩ Try.f19 [iV 2,A2 n f] [])).sem = some ((.tup [iV 45,nV i6]),[]):=Aa (bbK 18 258823) ((fun c0 c1 c2 c3=>[c0,c0,c0,Am (ieq 2 2),c1,c1,c1,ilt 16 (ofNat n),p0 (B8 (HY L p0 p2 p4 p6 n f x y i i2 i4 i6)) (CP n f 0 0 0 (Fa n f )),p2 (BG (HY L p0 p2 p4 p6 n f x y i i2 i4 i6)) (Cw n f x y 0 (D2 n f x y i)),ilt x 2,ilt y 2,c2,c3,c2,c3,p4 (C5 (HY L p0 p2 p4 p6 n f x y i i2 i4 i6)) (DQ n f (pO n f) (pM n f) 0 (IU n f x y i i2)),p6 (DL (HY L p0 p2 p4 p6 n f x y i i2 i4 i6)) (FJ n f (pO n f) (pM n f) 0 (Mt n f x y i i2 (pO n f) (pM n f) i4))]) (Am (ieq 2 1)) (ilt (ofNat n) 2) (An n (fun _=>true)) (AL n)) (by kernel_rfl) (by simp only [hp0,hp2,hp4,hp6] <;> simp only [*,Ar] <;> rfl)
noncomputable abbrev HX (L:LT) (p0:PT) (p2:PT) (p4:PT) (p6:PT) (n:Nat) (f:Nat->E6) (x:Int) (y:Int) (i:Nat) (i2:Nat) (i4:Nat) (i6:Nat):LT:=onP 0 p0 (Cj n f x y i) (onP 2 p2 (BP n f x y i2) (onP 4 p4 (Ir n f (pO n f) (pM n f) i4) (onP 6 p6 (NZ n f (pO n f) (pM n f) i6) L)))
theorem AcS (h0:ilt (ofNat n) 2 = false) (h1:ilt 16 (ofNat n) = false) (h2:ilt x 2 = false) (h3:ilt y 2 = false) (h4:AL n = true) (hp0:p0 (B8 (HX L p0 p2 p4 p6 n f x y i i2 i4 i6)) (CP n f 0 0 0 (Fa n f )) = true) (hp2:p2 (BG (HX L p0 p2 p4 p6 n f x y i i2 i4 i6)) (Cw n f x y 0 (D2 n f x y i)) = true) (hp4:p4 (C5 (HX L p0 p2 p4 p6 n f x y i i2 i4 i6)) (DQ n f (pO n f) (pM n f) 0 (IU n f x y i i2)) = true) (hp6:p6 (DL (HX L p0 p2 p4 p6 n f x y i i2 i4 i6)) (FJ n f (pO n f) (pM n f) 0 (Mt n f x y i i2 (pO n f) (pM n f) i4)) = true):(A1 (Al tab ⟨Ao CT,onP 0 p0 (Cj n f x y i) (onP 2 p2 (BP n f x y i2) (onP 4 p4 (Ir n f (pO n f) (pM n f) i4) (onP 6 p6 (NZ n f (pO n f) (pM n f) i6) L))),Gl⟩ Try.f19 [iV 2,A2 n f] [])).sem = some ((.tup [iV 0,iV 0]),[]):=Aa (bbK 18 258823) ((fun c0 c1 c2 c3=>[c0,c0,c0,Am (ieq 2 2),c1,c1,c1,ilt 16 (ofNat n),p0 (B8 (HX L p0 p2 p4 p6 n f x y i i2 i4 i6)) (CP n f 0 0 0 (Fa n f )),p2 (BG (HX L p0 p2 p4 p6 n f x y i i2 i4 i6)) (Cw n f x y 0 (D2 n f x y i)),ilt x 2,ilt y 2,c2,c3,c2,c3,p4 (C5 (HX L p0 p2 p4 p6 n f x y i i2 i4 i6)) (DQ n f (pO n f) (pM n f) 0 (IU n f x y i i2)),p6 (DL (HX L p0 p2 p4 p6 n f x y i i2 i4 i6)) (FJ n f (pO n f) (pM n f) 0 (Mt n f x y i i2 (pO n f) (pM n f) i4))]) (Am (ieq 2 1)) (ilt (ofNat n) 2) (An n (fun _=>true)) (AL n)) (by kernel_rfl) (by simp only [hp0,hp2,hp4,hp6] <;> simp only [*,Ar] <;> rfl)
end
section
variable (L:LT) (n:Nat) (f:Nat->E6)
include L n f
theorem AcW (h0:ilt (ofNat n) 2 = true):(A1 (Al tab ⟨Ao CT,L,Gl⟩ Try.f19 [iV 2,A2 n f] [])).sem = some ((.tup [iV 40,iV 0]),[]):=Aa (bbK 8 247) ((fun c0 c1=>[c0,c0,c0,Am (ieq 2 2),c1,c1,c1,true]) (Am (ieq 2 1)) (ilt (ofNat n) 2)) (by kernel_rfl) (by simp only [h0] <;> rfl)
theorem AcV (h0:ilt (ofNat n) 2 = false) (h1:ilt 16 (ofNat n) = true):(A1 (Al tab ⟨Ao CT,L,Gl⟩ Try.f19 [iV 2,A2 n f] [])).sem = some ((.tup [iV 40,iV 0]),[]):=Aa (bbK 8 135) ((fun c0 c1=>[c0,c0,c0,Am (ieq 2 2),c1,c1,c1,ilt 16 (ofNat n)]) (Am (ieq 2 1)) (ilt (ofNat n) 2)) (by kernel_rfl) (by simp only [h0,h1] <;> rfl)
end
theorem MV (L:LT) (n:Nat) (f:Nat->E6) (hn:n <= 4611686018427387904):∀ (d i:Nat) (j:Nat->V) (q:Nat),n = i+d->d < q ->
    (A3 (B8 L) (Kj n f) q (CP n f (ofNat (Aj (fun k=>Az (f k)) i)) (ofNat (Aj (fun k=>Au (f k)) i)) i j)).sem = some (match Bb (Cu 2 f) d i with
      | none=>Cj n f (ofNat (Aj (fun k=>Az (f k)) n)) (ofNat (Aj (fun k=>Au (f k)) n)) n
      | some t=>match ieq (Dw 2 (f t)) 0 with
        | false=>QD n f (ofNat (Aj (fun k=>Az (f k)) t)) (ofNat (Aj (fun k=>Au (f k)) t)) t
        | true=>QC n f (ofNat (Aj (fun k=>Az (f k)) t)) (ofNat (Aj (fun k=>Au (f k)) t)) t)
  | 0,i,j,q+1,h,_=>by
    have:n = i:=by omega
    subst this
    exact Ab (Af6 L n f (ofNat (Aj (fun k=>Az (f k)) n)) (ofNat (Aj (fun k=>Au (f k)) n)) n j (A8 (Nat.le_refl _)))
  | d+1,i,j,q+1,h,h2=>by
    have hl:i < n:=by omega
    have ho:=Bd (fun k=>Az (f k)) i
    have hm:=Bd (fun k=>Au (f k)) i
    cases c1:ieq (AM (f i)) 0 with
    | false =>
      have c1':ieq (Dw 2 (f i)) 0 = false:=c1
      rw [BT (show Cu 2 f i = true by rw [Cu,c1']; rfl)]
      simp only [c1']
      exact Ab (Af5 L n f (ofNat (Aj (fun k=>Az (f k)) i)) (ofNat (Aj (fun k=>Au (f k)) i)) i j (ofNat_lt hl) (Ay hl) c1)
    | true =>
      have c1':ieq (Dw 2 (f i)) 0 = true:=c1
      cases c2:D7 2 (f i) with
      | false =>
        rw [BT (show Cu 2 f i = true by rw [Cu,c1',c2]; rfl)]
        simp only [c1']
        exact Ab (Af4 L n f (ofNat (Aj (fun k=>Az (f k)) i)) (ofNat (Aj (fun k=>Au (f k)) i)) i j (ofNat_lt hl) (Ay hl) c1 c2)
      | true =>
        cases c3:Az (f i) with
        | false =>
          cases c4:Au (f i) with
          | false =>
            rw [Bz (show Cu 2 f i = false by rw [Cu,show ieq (Dw 2 (f i)) 0 = true from c1,c2]; rfl),Ab (AaW L n f (ofNat (Aj (fun k=>Az (f k)) i)) (ofNat (Aj (fun k=>Au (f k)) i)) i j (ofNat_lt hl) (Ay hl) c1 c2 c3 c4),Aw,Aq hl hn,<- B2 (p:=(fun k=>Az (f k))) c3,<- B2 (p:=(fun k=>Au (f k))) c4]
            exact MV L n f hn d (i+1) (fun _=>.und) q (by omega) (by omega)
          | true =>
            rw [Bz (show Cu 2 f i = false by rw [Cu,show ieq (Dw 2 (f i)) 0 = true from c1,c2]; rfl),Ab (AaX L n f (ofNat (Aj (fun k=>Az (f k)) i)) (ofNat (Aj (fun k=>Au (f k)) i)) i j (ofNat_lt hl) (Ay hl) c1 c2 c3 c4),Aw,Aq hl hn,Aq (show Aj (fun k=>Au (f k)) i < n by omega) hn,<- B2 (p:=(fun k=>Az (f k))) c3,<- Bi (p:=(fun k=>Au (f k))) c4]
            exact MV L n f hn d (i+1) (fun _=>.und) q (by omega) (by omega)
        | true =>
          cases c4:Au (f i) with
          | false =>
            rw [Bz (show Cu 2 f i = false by rw [Cu,show ieq (Dw 2 (f i)) 0 = true from c1,c2]; rfl),Ab (AaU L n f (ofNat (Aj (fun k=>Az (f k)) i)) (ofNat (Aj (fun k=>Au (f k)) i)) i j (ofNat_lt hl) (Ay hl) c1 c2 c3 c4),Aw,Aq hl hn,Aq (show Aj (fun k=>Az (f k)) i < n by omega) hn,<- Bi (p:=(fun k=>Az (f k))) c3,<- B2 (p:=(fun k=>Au (f k))) c4]
            exact MV L n f hn d (i+1) (fun _=>.und) q (by omega) (by omega)
          | true =>
            rw [Bz (show Cu 2 f i = false by rw [Cu,show ieq (Dw 2 (f i)) 0 = true from c1,c2]; rfl),Ab (AaV L n f (ofNat (Aj (fun k=>Az (f k)) i)) (ofNat (Aj (fun k=>Au (f k)) i)) i j (ofNat_lt hl) (Ay hl) c1 c2 c3 c4),Aw,Aq hl hn,Aq (show Aj (fun k=>Az (f k)) i < n by omega) hn,Aq (show Aj (fun k=>Au (f k)) i < n by omega) hn,<- Bi (p:=(fun k=>Az (f k))) c3,<- Bi (p:=(fun k=>Au (f k))) c4]
            exact MV L n f hn d (i+1) (fun _=>.und) q (by omega) (by omega)
theorem UO (L:LT) (n:Nat) (f:Nat->E6) (x y:Int) (hn:n <= 4611686018427387904):∀ (d i:Nat) (j:Nat->V) (q:Nat),n = i+d->d < q ->
    (A3 (BG L) (Kn n f) q (Cw n f x y i j)).sem = some (match Bb (EX n f) d i with
      | none=>BP n f x y 0
      | some t=>GL n f x y t)
  | 0,i,j,q+1,h,_=>by
    have:n = i:=by omega
    subst this
    exact Ab (Afz L n f x y n j (A8 (Nat.le_refl _)))
  | d+1,i,j,q+1,h,h2=>by
    have hl:i < n:=by omega
    have e1:=Nk hl hn
    have hb:Af (ile 0 (Ad (wr .i64 (Ae (ofNat i) 1)) (ofNat n))) (ilt (Ad (wr .i64 (Ae (ofNat i) 1)) (ofNat n)) (ofNat n)) = true:=by
      rw [e1]; exact Ay (Nat.mod_lt _ (by omega))
    have e2:toN (ofNat ((i+1) % n)) = (i+1) % n:=rfl
    cases c1:ieq (f i).dst (f ((i+1) % n)).src with
    | false =>
      rw [BT (show EX n f i = true by rw [EX,c1]; rfl)]
      exact Ab (Afy L n f x y i j (ofNat_lt hl) (Ay hl) (W1 hl) hb (by rw [e1,e2]; exact c1))
    | true =>
      rw [Bz (show EX n f i = false by rw [EX,c1]; rfl),Ab (Afx L n f x y i j (ofNat_lt hl) (Ay hl) (W1 hl) hb (by rw [e1,e2]; exact c1)),Aw,Aq hl hn]
      exact UO L n f x y hn d (i+1) (fun _=>.und) q (by omega) (by omega)
theorem PV (L:LT) (n:Nat) (f:Nat->E6) (u v:Nat->Int) (hn:n <= 4611686018427387904):∀ (d i:Nat) (j:Nat->V) (q:Nat),n = i+d->d < q ->
    (A3 (C5 L) (IO n f) q (DQ n f u v i j)).sem = some (match Bb (AG n v (fun i=>isW (f i)) 2) d i with
      | none=>Ir n f u v 0
      | some t=>Oc n f u v t)
  | 0,i,j,q+1,h,_=>by
    have:n = i:=by omega
    subst this
    exact Ab (AeN L n f u v n j (A8 (Nat.le_refl _)))
  | d+1,i,j,q+1,h,h2=>by
    have hl:i < n:=by omega
    have hs:Ah n = true:=decide_eq_true hn
    cases c1:ieq (f i).src 2 with
    | false =>
      rw [Bz (show AG n v (fun i=>isW (f i)) 2 i = false by rw [AG,isW,c1]; rfl),Ab (AeQ L n f u v i j (ofNat_lt hl) (Ay hl) c1),Aw,Aq hl hn]
      exact PV L n f u v hn d (i+1) (fun _=>.und) q (by omega) (by omega)
    | true =>
      cases c2:ilt 2 (Ea n v (fun i=>(bor (Am true) (isW (f i)))) (v i)) with
      | false =>
        rw [Bz (show AG n v (fun i=>isW (f i)) 2 i = false by rw [AG,isW,c1]; exact c2),Ab (AeP L n f u v i j (ofNat_lt hl) (Ay hl) c1 (show nlt i n = true by simpa [nlt] using hl) (Nat.beq_refl n) hs c2),Aw,Aq hl hn]
        exact PV L n f u v hn d (i+1) (fun _=>.und) q (by omega) (by omega)
      | true =>
        rw [BT (show AG n v (fun i=>isW (f i)) 2 i = true by rw [AG,isW,c1]; exact c2)]
        exact Ab (AeO L n f u v i j (ofNat_lt hl) (Ay hl) c1 (show nlt i n = true by simpa [nlt] using hl) (Nat.beq_refl n) hs c2)
theorem UM (L:LT) (n:Nat) (f:Nat->E6) (u v:Nat->Int) (hn:n <= 4611686018427387904):∀ (d i:Nat) (j:Nat->V) (q:Nat),n = i+d->d < q ->
    (A3 (DL L) (Kl n f) q (FJ n f u v i j)).sem = some (match Bb (AG n u (fun _=>true) 12) d i with
      | none=>NZ n f u v 0
      | some t=>Oa n f u v t)
  | 0,i,j,q+1,h,_=>by
    have:n = i:=by omega
    subst this
    exact Ab (Ae3 L n f u v n j (A8 (Nat.le_refl _)))
  | d+1,i,j,q+1,h,h2=>by
    have hl:i < n:=by omega
    have hs:Ah n = true:=decide_eq_true hn
    cases c2:ilt 12 (Ea n u (fun i=>(bor (Am false) (isW (f i)))) (u i)) with
    | false =>
      rw [Bz (show AG n u (fun _=>true) 12 i = false from c2),Ab (Ae5 L n f u v i j (ofNat_lt hl) (Ay hl) (show nlt i n = true by simpa [nlt] using hl) (Nat.beq_refl n) hs c2),Aw,Aq hl hn]
      exact UM L n f u v hn d (i+1) (fun _=>.und) q (by omega) (by omega)
    | true =>
      rw [BT (show AG n u (fun _=>true) 12 i = true from c2)]
      exact Ab (Ae4 L n f u v i j (ofNat_lt hl) (Ay hl) (show nlt i n = true by simpa [nlt] using hl) (Nat.beq_refl n) hs c2)
def Qk (n:Nat) (f:Nat->E6):List (Nat × Lp):=[(0,Kj n f),(2,Kn n f),(4,IO n f),(6,Kl n f)]
theorem Aak (n:Nat) (f:Nat->E6) (hF:AL n = true) :
    (A1 (Al tab (AR Gl CT (Qk n f)) Try.f19 [iV 2,A2 n f] [])).sem = some (.tup [iV (Jr 2 n f).1,iV (Jr 2 n f).2],[]):=by
  have hL:=AC (Qk n f)
  have hn:=CE (ET hF)
  unfold Jr
  cases hA:ilt (ofNat n) 2 with
  | true=>exact AcW _ n f hA
  | false =>
    cases hB:ilt 16 (ofNat n) with
    | true=>exact AcV _ n f hA hB
    | false =>
      have h0:=fun L j=>MV L n f hn n 0 j (n+1) (by omega) (by omega)
      have h2:=fun L j=>UO L n f (ofNat (Aj (fun k=>Az (f k)) n)) (ofNat (Aj (fun k=>Au (f k)) n)) hn n 0 j (n+1) (by omega) (by omega)
      have h4:=fun L j=>PV L n f (pO n f) (pM n f) hn n 0 j (n+1) (by omega) (by omega)
      have h6:=fun L j=>UM L n f (pO n f) (pM n f) hn n 0 j (n+1) (by omega) (by omega)
      show _ = some (V.tup [iV (match Dn 2 n f,ieq (Dn 2 n f).1 0 with | r,false=>r | _,true=>EG n f).1,iV (match Dn 2 n f,ieq (Dn 2 n f).1 0 with | r,false=>r | _,true=>EG n f).2],[])
      unfold Dn
      cases c1:Bb (Cu 2 f) n 0 with
      | some t =>
        rw [c1] at h0
        cases c2:ieq (Dw 2 (f t)) 0 with
        | false =>
          simp only [c2] at h0 ⊢
          exact A6 (Ax hL hL) _ (Ada _ _ n f (ofNat (Aj (fun k=>Az (f k)) t)) (ofNat (Aj (fun k=>Au (f k)) t)) t hA hB (Ak (h0 _ _)))
        | true =>
          simp only [c2] at h0 ⊢
          exact A6 (Ax hL hL) _ (AcZ _ _ n f (ofNat (Aj (fun k=>Az (f k)) t)) (ofNat (Aj (fun k=>Au (f k)) t)) t hA hB (Ak (h0 _ _)))
      | none =>
        rw [c1] at h0
        cases c2:Bb (EX n f) n 0 with
        | some t =>
          rw [c2] at h2
          exact A6 (Ax (Ax hL hL) hL) _ (AcY _ _ _ n f (ofNat (Aj (fun k=>Az (f k)) n)) (ofNat (Aj (fun k=>Au (f k)) n)) n t hA hB (Ak (h0 _ _)) (Ak (h2 _ _)))
        | none =>
          rw [c2] at h2
          show _ = some (V.tup [iV (EG n f).1,iV (EG n f).2],[])
          unfold EG
          cases c3:ilt (DZ n f) 2 with
          | true=>exact A6 (Ax (Ax hL hL) hL) _ (AcX _ _ _ n f (ofNat (Aj (fun k=>Az (f k)) n)) (ofNat (Aj (fun k=>Au (f k)) n)) n 0 hA hB c3 (Ak (h0 _ _)) (Ak (h2 _ _)))
          | false =>
            cases c4:ilt (EV n f) 2 with
            | true=>exact A6 (Ax (Ax hL hL) hL) _ (AcU _ _ _ n f (ofNat (Aj (fun k=>Az (f k)) n)) (ofNat (Aj (fun k=>Au (f k)) n)) n 0 hA hB c3 c4 (Ak (h0 _ _)) (Ak (h2 _ _)))
            | false =>
              show _ = some (V.tup [iV (Is n f).1,iV (Is n f).2],[])
              unfold Is crR
              cases c5:Bb (AG n (A0 (fun k=>Au (f k)) n) (fun i=>isW (f i)) 2) n 0 with
              | some t =>
                rw [show (Bb (AG n (pM n f) (fun i=>isW (f i)) 2) n 0) = some t from c5] at h4
                exact A6 (Ax (Ax (Ax hL hL) hL) hL) _ (AcT _ _ _ _ n f (ofNat (Aj (fun k=>Az (f k)) n)) (ofNat (Aj (fun k=>Au (f k)) n)) n 0 t hA hB c3 c4 hF (Ak (h0 _ _)) (Ak (h2 _ _)) (Ak (h4 _ _)))
              | none =>
                rw [show (Bb (AG n (pM n f) (fun i=>isW (f i)) 2) n 0) = none from c5] at h4
                cases c6:Bb (AG n (A0 (fun k=>Az (f k)) n) (fun _=>true) 12) n 0 with
                | some t =>
                  rw [show (Bb (AG n (pO n f) (fun _=>true) 12) n 0) = some t from c6] at h6
                  exact A6 (Ax (Ax (Ax (Ax hL hL) hL) hL) hL) _ (Adb _ _ _ _ _ n f (ofNat (Aj (fun k=>Az (f k)) n)) (ofNat (Aj (fun k=>Au (f k)) n)) n 0 0 t hA hB c3 c4 hF (Ak (h0 _ _)) (Ak (h2 _ _)) (Ak (h4 _ _)) (Ak (h6 _ _)))
                | none =>
                  rw [show (Bb (AG n (pO n f) (fun _=>true) 12) n 0) = none from c6] at h6
                  exact A6 (Ax (Ax (Ax (Ax hL hL) hL) hL) hL) _ (AcS _ _ _ _ _ n f (ofNat (Aj (fun k=>Az (f k)) n)) (ofNat (Aj (fun k=>Au (f k)) n)) n 0 0 0 hA hB c3 c4 hF (Ak (h0 _ _)) (Ak (h2 _ _)) (Ak (h4 _ _)) (Ak (h6 _ _)))
theorem AgC (L:LT) (a:Int) (n:Nat) (f:Nat->E6) (h0:ieq a 1 = false) (h1:ieq a 2 = false):(A1 (Al tab ⟨Ao CT,L,Gl⟩ Try.f19 [iV a,A2 n f] [])).sem = some ((.tup [iV 1,iV 0]),[]):=Aa [true,true,true,true] [Am (ieq a 1),Am (ieq a 1),Am (ieq a 1),Am (ieq a 2)] (by kernel_rfl) (by simp only [h0,h1] <;> rfl)
theorem p49:AD Try.prog Gl 19 WT:=by
  refine A5 AO AP Try.func19 (by kernel_rfl) (by kernel_rfl) fun vs v h' h=>?_
  unfold WT at h
  split at h
  · rename_i a u
    obtain ⟨n,f,ha,h1⟩:=BU h
    obtain ⟨hn,hq⟩:=Ag h1
    have:=Ac hq
    simp only [Prod.mk.injEq] at this
    obtain ⟨rfl,rfl⟩:=this
    cases ca:ieq a 1 with
    | true =>
      have h9:=Gr ca
      subst h9
      have hx:=AQ PF (Qj n f)
      exact ⟨_,AR Gl CT (Qj n f),_,QZ ha,rfl,hx.1,hx.2,Aaj n f hn,AB.refl _⟩
    | false =>
      cases cb:ieq a 2 with
      | true =>
        have h9:=Gr cb
        subst h9
        have hx:=AQ PF (Qk n f)
        exact ⟨_,AR Gl CT (Qk n f),_,QZ ha,rfl,hx.1,hx.2,Aak n f hn,AB.refl _⟩
      | false =>
        have hx:=AQ PF []
        refine ⟨_,AR Gl CT [],_,QZ ha,rfl,hx.1,hx.2,?_,AB.refl _⟩
        unfold OF
        rw [ca,cb]
        exact AgC _ a n f ca cb
  · cases h
noncomputable def Fv:List (Nat × (List V->T (V × List Blk))):=(81,AfU) :: (82,Uo) :: (87,TE) :: (86,Un) :: []
theorem PG:AF Try.prog Gl Fv:=.cons p86 <| .cons p87 <| .cons p92 <| .cons p91 .nil
def EF (a:Int) (n:Nat) (f:Nat->E6):Int:=(Dn a n f).1
def AiT (a:Int) (n:Nat) (f:Nat->E6):Int:=(Dn a n f).2
def crI (n:Nat) (l:Nat->Int) (c:Nat->Bool) (q:Int):Int:=(crR n l c q).1
def crB (n:Nat) (l:Nat->Int) (c:Nat->Bool) (q:Int):Bool:=(crR n l c q).2
theorem Dt (p:Nat->Bool) (n:Nat) (hn:n <= 4611686018427387904):okP n (A0 p n) = true:=AA.2 fun i hi=>by
  unfold A0
  cases decide (i < n) with
  | false=>rfl
  | true =>
    cases decide (Aj p i = Aj p n) with
    | true=>rfl
    | false =>
      have:=Bd p i
      exact Q1 (by omega)
section
variable (L:LT) (n:Nat) (f:Nat->E6)
include L n f
theorem Adf (h0:ilt (ofNat n) 2 = true):(A1 (Al tab ⟨Ao Fv,L,Gl⟩ Try.f50 [iV 1,A2 n f] [])).sem = some ((.tup [iV 40,iV 0]),[]):=Aa (bbK 9 496) ((fun c0 c1=>[c0,c0,c0,false,c1,c1,c1,c1,true]) (Am (ieq 1 1)) (ilt (ofNat n) 2)) (by kernel_rfl) (by simp only [h0] <;> rfl)
theorem Ade (h0:ilt (ofNat n) 2 = false) (h1:ilt 16 (ofNat n) = true):(A1 (Al tab ⟨Ao Fv,L,Gl⟩ Try.f50 [iV 1,A2 n f] [])).sem = some ((.tup [iV 40,iV 0]),[]):=Aa (bbK 9 256) ((fun c0 c1=>[c0,c0,c0,false,c1,c1,c1,c1,ilt 16 (ofNat n)]) (Am (ieq 1 1)) (ilt (ofNat n) 2)) (by kernel_rfl) (by simp only [h0,h1] <;> rfl)
theorem Adi (h0:ilt (ofNat n) 2 = false) (h1:ilt 16 (ofNat n) = false) (h2:AL n = true) (h3:ieq (EF 1 n f) 0 = false):(A1 (Al tab ⟨Ao Fv,L,Gl⟩ Try.f50 [iV 1,A2 n f] [])).sem = some ((.tup [iV (EF 1 n f),iV (AiT 1 n f)]),[]):=Aa (bbK 12 3584) ((fun c0 c1=>[c0,c0,c0,false,c1,c1,c1,c1,ilt 16 (ofNat n),An n (fun _=>true),AL n,Am (ieq (EF 1 n f) 0)]) (Am (ieq 1 1)) (ilt (ofNat n) 2)) (by kernel_rfl) (by simp only [*,Ar] <;> rfl)
theorem Adg (h0:ilt (ofNat n) 2 = false) (h1:ilt 16 (ofNat n) = false) (h2:AL n = true) (h3:ieq (EF 1 n f) 0 = true) (h4:Ah n = true) (h5:ilt (DZ n f) 2 = true):(A1 (Al tab ⟨Ao Fv,L,Gl⟩ Try.f50 [iV 1,A2 n f] [])).sem = some ((.tup [iV 42,iV 0]),[]):=Aa (bbK 15 30208) ((fun c0 c1 c2=>[c0,c0,c0,false,c1,c1,c1,c1,ilt 16 (ofNat n),c2,AL n,Am (ieq (EF 1 n f) 0),c2,Ah n,ilt (DZ n f) 2]) (Am (ieq 1 1)) (ilt (ofNat n) 2) (An n (fun _=>true))) (by kernel_rfl) (by simp only [*,Ar] <;> rfl)
theorem Adh (h0:ilt (ofNat n) 2 = false) (h1:ilt 16 (ofNat n) = false) (h2:AL n = true) (h3:ieq (EF 1 n f) 0 = true) (h4:Ah n = true) (h5:ilt (DZ n f) 2 = false) (h6:ilt (EV n f) 2 = true):(A1 (Al tab ⟨Ao Fv,L,Gl⟩ Try.f50 [iV 1,A2 n f] [])).sem = some ((.tup [iV 43,iV 0]),[]):=Aa (bbK 18 243200) ((fun c0 c1 c2 c3=>[c0,c0,c0,false,c1,c1,c1,c1,ilt 16 (ofNat n),c2,AL n,Am (ieq (EF 1 n f) 0),c2,c3,ilt (DZ n f) 2,c2,c3,ilt (EV n f) 2]) (Am (ieq 1 1)) (ilt (ofNat n) 2) (An n (fun _=>true)) (Ah n)) (by kernel_rfl) (by simp only [*,Ar] <;> rfl)
theorem Add (h0:ilt (ofNat n) 2 = false) (h1:ilt 16 (ofNat n) = false) (h2:AL n = true) (h3:ieq (EF 1 n f) 0 = true) (h4:Ah n = true) (h5:ilt (DZ n f) 2 = false) (h6:ilt (EV n f) 2 = false) (h7:BL 8 (ofNat n) (ofNat n) = true) (h8:AN n n = true) (h9:okP n (A0 (fun k=>Au (f k)) n) = true) (h10:crB n (A0 (fun k=>Au (f k)) n) (fun i=>isW (f i)) 2 = true):(A1 (Al tab ⟨Ao Fv,L,Gl⟩ Try.f50 [iV 1,A2 n f] [])).sem = some ((.tup [iV 44,iV (crI n (A0 (fun k=>Au (f k)) n) (fun i=>isW (f i)) 2)]),[]):=Aa (bbK 26 66958848) ((fun c0 c1 c2 c3=>[c0,c0,c0,false,c1,c1,c1,c1,ilt 16 (ofNat n),c2,AL n,Am (ieq (EF 1 n f) 0),c2,c3,ilt (DZ n f) 2,c2,c3,ilt (EV n f) 2,c2,BL 8 (ofNat n) (ofNat n),c2,c2,AN n n,c3,okP n (A0 (fun k=>Au (f k)) n),crB n (A0 (fun k=>Au (f k)) n) (fun i=>isW (f i)) 2]) (Am (ieq 1 1)) (ilt (ofNat n) 2) (An n (fun _=>true)) (Ah n)) (by kernel_rfl) (by simp only [*,Ar] <;> rfl)
theorem Adj (h0:ilt (ofNat n) 2 = false) (h1:ilt 16 (ofNat n) = false) (h2:AL n = true) (h3:ieq (EF 1 n f) 0 = true) (h4:Ah n = true) (h5:ilt (DZ n f) 2 = false) (h6:ilt (EV n f) 2 = false) (h7:BL 8 (ofNat n) (ofNat n) = true) (h8:AN n n = true) (h9:okP n (A0 (fun k=>Au (f k)) n) = true) (h10:crB n (A0 (fun k=>Au (f k)) n) (fun i=>isW (f i)) 2 = false) (h11:okP n (A0 (fun k=>Az (f k)) n) = true) (h12:crB n (A0 (fun k=>Az (f k)) n) (fun _=>true) 12 = true):(A1 (Al tab ⟨Ao Fv,L,Gl⟩ Try.f50 [iV 1,A2 n f] [])).sem = some ((.tup [iV 45,iV (crI n (A0 (fun k=>Az (f k)) n) (fun _=>true) 12)]),[]):=Aa (bbK 32 4261262848) ((fun c0 c1 c2 c3 c4=>[c0,c0,c0,false,c1,c1,c1,c1,ilt 16 (ofNat n),c2,AL n,Am (ieq (EF 1 n f) 0),c2,c3,ilt (DZ n f) 2,c2,c3,ilt (EV n f) 2,c2,c4,c2,c2,AN n n,c3,okP n (A0 (fun k=>Au (f k)) n),crB n (A0 (fun k=>Au (f k)) n) (fun i=>isW (f i)) 2,c2,c4,c2,c3,okP n (A0 (fun k=>Az (f k)) n),crB n (A0 (fun k=>Az (f k)) n) (fun _=>true) 12]) (Am (ieq 1 1)) (ilt (ofNat n) 2) (An n (fun _=>true)) (Ah n) (BL 8 (ofNat n) (ofNat n))) (by kernel_rfl) (by simp only [*,Ar] <;> rfl)
theorem Adc (h0:ilt (ofNat n) 2 = false) (h1:ilt 16 (ofNat n) = false) (h2:AL n = true) (h3:ieq (EF 1 n f) 0 = true) (h4:Ah n = true) (h5:ilt (DZ n f) 2 = false) (h6:ilt (EV n f) 2 = false) (h7:BL 8 (ofNat n) (ofNat n) = true) (h8:AN n n = true) (h9:okP n (A0 (fun k=>Au (f k)) n) = true) (h10:crB n (A0 (fun k=>Au (f k)) n) (fun i=>isW (f i)) 2 = false) (h11:okP n (A0 (fun k=>Az (f k)) n) = true) (h12:crB n (A0 (fun k=>Az (f k)) n) (fun _=>true) 12 = false):(A1 (Al tab ⟨Ao Fv,L,Gl⟩ Try.f50 [iV 1,A2 n f] [])).sem = some ((.tup [iV 0,iV 0]),[]):=Aa (bbK 32 2113779200) ((fun c0 c1 c2 c3 c4=>[c0,c0,c0,false,c1,c1,c1,c1,ilt 16 (ofNat n),c2,AL n,Am (ieq (EF 1 n f) 0),c2,c3,ilt (DZ n f) 2,c2,c3,ilt (EV n f) 2,c2,c4,c2,c2,AN n n,c3,okP n (A0 (fun k=>Au (f k)) n),crB n (A0 (fun k=>Au (f k)) n) (fun i=>isW (f i)) 2,c2,c4,c2,c3,okP n (A0 (fun k=>Az (f k)) n),crB n (A0 (fun k=>Az (f k)) n) (fun _=>true) 12]) (Am (ieq 1 1)) (ilt (ofNat n) 2) (An n (fun _=>true)) (Ah n) (BL 8 (ofNat n) (ofNat n))) (by kernel_rfl) (by simp only [*,Ar] <;> rfl)
theorem Adn (h0:ilt (ofNat n) 2 = true):(A1 (Al tab ⟨Ao Fv,L,Gl⟩ Try.f50 [iV 2,A2 n f] [])).sem = some ((.tup [iV 40,iV 0]),[]):=Aa (bbK 9 503) ((fun c0 c1=>[c0,c0,c0,Am (ieq 2 2),c1,c1,c1,c1,true]) (Am (ieq 2 1)) (ilt (ofNat n) 2)) (by kernel_rfl) (by simp only [h0] <;> rfl)
theorem Adm (h0:ilt (ofNat n) 2 = false) (h1:ilt 16 (ofNat n) = true):(A1 (Al tab ⟨Ao Fv,L,Gl⟩ Try.f50 [iV 2,A2 n f] [])).sem = some ((.tup [iV 40,iV 0]),[]):=Aa (bbK 9 263) ((fun c0 c1=>[c0,c0,c0,Am (ieq 2 2),c1,c1,c1,c1,ilt 16 (ofNat n)]) (Am (ieq 2 1)) (ilt (ofNat n) 2)) (by kernel_rfl) (by simp only [h0,h1] <;> rfl)
theorem Adq (h0:ilt (ofNat n) 2 = false) (h1:ilt 16 (ofNat n) = false) (h2:AL n = true) (h3:ieq (EF 2 n f) 0 = false):(A1 (Al tab ⟨Ao Fv,L,Gl⟩ Try.f50 [iV 2,A2 n f] [])).sem = some ((.tup [iV (EF 2 n f),iV (AiT 2 n f)]),[]):=Aa (bbK 12 3591) ((fun c0 c1=>[c0,c0,c0,Am (ieq 2 2),c1,c1,c1,c1,ilt 16 (ofNat n),An n (fun _=>true),AL n,Am (ieq (EF 2 n f) 0)]) (Am (ieq 2 1)) (ilt (ofNat n) 2)) (by kernel_rfl) (by simp only [*,Ar] <;> rfl)
theorem Ado (h0:ilt (ofNat n) 2 = false) (h1:ilt 16 (ofNat n) = false) (h2:AL n = true) (h3:ieq (EF 2 n f) 0 = true) (h4:Ah n = true) (h5:ilt (DZ n f) 2 = true):(A1 (Al tab ⟨Ao Fv,L,Gl⟩ Try.f50 [iV 2,A2 n f] [])).sem = some ((.tup [iV 42,iV 0]),[]):=Aa (bbK 15 30215) ((fun c0 c1 c2=>[c0,c0,c0,Am (ieq 2 2),c1,c1,c1,c1,ilt 16 (ofNat n),c2,AL n,Am (ieq (EF 2 n f) 0),c2,Ah n,ilt (DZ n f) 2]) (Am (ieq 2 1)) (ilt (ofNat n) 2) (An n (fun _=>true))) (by kernel_rfl) (by simp only [*,Ar] <;> rfl)
theorem Adp (h0:ilt (ofNat n) 2 = false) (h1:ilt 16 (ofNat n) = false) (h2:AL n = true) (h3:ieq (EF 2 n f) 0 = true) (h4:Ah n = true) (h5:ilt (DZ n f) 2 = false) (h6:ilt (EV n f) 2 = true):(A1 (Al tab ⟨Ao Fv,L,Gl⟩ Try.f50 [iV 2,A2 n f] [])).sem = some ((.tup [iV 43,iV 0]),[]):=Aa (bbK 18 243207) ((fun c0 c1 c2 c3=>[c0,c0,c0,Am (ieq 2 2),c1,c1,c1,c1,ilt 16 (ofNat n),c2,AL n,Am (ieq (EF 2 n f) 0),c2,c3,ilt (DZ n f) 2,c2,c3,ilt (EV n f) 2]) (Am (ieq 2 1)) (ilt (ofNat n) 2) (An n (fun _=>true)) (Ah n)) (by kernel_rfl) (by simp only [*,Ar] <;> rfl)
theorem Adl (h0:ilt (ofNat n) 2 = false) (h1:ilt 16 (ofNat n) = false) (h2:AL n = true) (h3:ieq (EF 2 n f) 0 = true) (h4:Ah n = true) (h5:ilt (DZ n f) 2 = false) (h6:ilt (EV n f) 2 = false) (h7:BL 8 (ofNat n) (ofNat n) = true) (h8:AN n n = true) (h9:okP n (A0 (fun k=>Au (f k)) n) = true) (h10:crB n (A0 (fun k=>Au (f k)) n) (fun i=>isW (f i)) 2 = true):(A1 (Al tab ⟨Ao Fv,L,Gl⟩ Try.f50 [iV 2,A2 n f] [])).sem = some ((.tup [iV 44,iV (crI n (A0 (fun k=>Au (f k)) n) (fun i=>isW (f i)) 2)]),[]):=Aa (bbK 26 66958855) ((fun c0 c1 c2 c3=>[c0,c0,c0,Am (ieq 2 2),c1,c1,c1,c1,ilt 16 (ofNat n),c2,AL n,Am (ieq (EF 2 n f) 0),c2,c3,ilt (DZ n f) 2,c2,c3,ilt (EV n f) 2,c2,BL 8 (ofNat n) (ofNat n),c2,c2,AN n n,c3,okP n (A0 (fun k=>Au (f k)) n),crB n (A0 (fun k=>Au (f k)) n) (fun i=>isW (f i)) 2]) (Am (ieq 2 1)) (ilt (ofNat n) 2) (An n (fun _=>true)) (Ah n)) (by kernel_rfl) (by simp only [*,Ar] <;> rfl)
theorem Adr (h0:ilt (ofNat n) 2 = false) (h1:ilt 16 (ofNat n) = false) (h2:AL n = true) (h3:ieq (EF 2 n f) 0 = true) (h4:Ah n = true) (h5:ilt (DZ n f) 2 = false) (h6:ilt (EV n f) 2 = false) (h7:BL 8 (ofNat n) (ofNat n) = true) (h8:AN n n = true) (h9:okP n (A0 (fun k=>Au (f k)) n) = true) (h10:crB n (A0 (fun k=>Au (f k)) n) (fun i=>isW (f i)) 2 = false) (h11:okP n (A0 (fun k=>Az (f k)) n) = true) (h12:crB n (A0 (fun k=>Az (f k)) n) (fun _=>true) 12 = true):(A1 (Al tab ⟨Ao Fv,L,Gl⟩ Try.f50 [iV 2,A2 n f] [])).sem = some ((.tup [iV 45,iV (crI n (A0 (fun k=>Az (f k)) n) (fun _=>true) 12)]),[]):=Aa (bbK 32 4261262855) ((fun c0 c1 c2 c3 c4=>[c0,c0,c0,Am (ieq 2 2),c1,c1,c1,c1,ilt 16 (ofNat n),c2,AL n,Am (ieq (EF 2 n f) 0),c2,c3,ilt (DZ n f) 2,c2,c3,ilt (EV n f) 2,c2,c4,c2,c2,AN n n,c3,okP n (A0 (fun k=>Au (f k)) n),crB n (A0 (fun k=>Au (f k)) n) (fun i=>isW (f i)) 2,c2,c4,c2,c3,okP n (A0 (fun k=>Az (f k)) n),crB n (A0 (fun k=>Az (f k)) n) (fun _=>true) 12]) (Am (ieq 2 1)) (ilt (ofNat n) 2) (An n (fun _=>true)) (Ah n) (BL 8 (ofNat n) (ofNat n))) (by kernel_rfl) (by simp only [*,Ar] <;> rfl)
theorem Adk (h0:ilt (ofNat n) 2 = false) (h1:ilt 16 (ofNat n) = false) (h2:AL n = true) (h3:ieq (EF 2 n f) 0 = true) (h4:Ah n = true) (h5:ilt (DZ n f) 2 = false) (h6:ilt (EV n f) 2 = false) (h7:BL 8 (ofNat n) (ofNat n) = true) (h8:AN n n = true) (h9:okP n (A0 (fun k=>Au (f k)) n) = true) (h10:crB n (A0 (fun k=>Au (f k)) n) (fun i=>isW (f i)) 2 = false) (h11:okP n (A0 (fun k=>Az (f k)) n) = true) (h12:crB n (A0 (fun k=>Az (f k)) n) (fun _=>true) 12 = false):(A1 (Al tab ⟨Ao Fv,L,Gl⟩ Try.f50 [iV 2,A2 n f] [])).sem = some ((.tup [iV 0,iV 0]),[]):=Aa (bbK 32 2113779207) ((fun c0 c1 c2 c3 c4=>[c0,c0,c0,Am (ieq 2 2),c1,c1,c1,c1,ilt 16 (ofNat n),c2,AL n,Am (ieq (EF 2 n f) 0),c2,c3,ilt (DZ n f) 2,c2,c3,ilt (EV n f) 2,c2,c4,c2,c2,AN n n,c3,okP n (A0 (fun k=>Au (f k)) n),crB n (A0 (fun k=>Au (f k)) n) (fun i=>isW (f i)) 2,c2,c4,c2,c3,okP n (A0 (fun k=>Az (f k)) n),crB n (A0 (fun k=>Az (f k)) n) (fun _=>true) 12]) (Am (ieq 2 1)) (ilt (ofNat n) 2) (An n (fun _=>true)) (Ah n) (BL 8 (ofNat n) (ofNat n))) (by kernel_rfl) (by simp only [*,Ar] <;> rfl)
end
theorem AgD (L:LT) (a:Int) (n:Nat) (f:Nat->E6) (h0:ieq a 1 = false) (h1:ieq a 2 = false):(A1 (Al tab ⟨Ao Fv,L,Gl⟩ Try.f50 [iV a,A2 n f] [])).sem = some ((.tup [iV 1,iV 0]),[]):=Aa [true,true,true,true] [Am (ieq a 1),Am (ieq a 1),Am (ieq a 1),Am (ieq a 2)] (by kernel_rfl) (by simp only [h0,h1] <;> rfl)
theorem Aal (n:Nat) (f:Nat->E6) (hF:AL n = true) :
    (A1 (Al tab (AR Gl Fv []) Try.f50 [iV 1,A2 n f] [])).sem = some (.tup [iV (Jr 1 n f).1,iV (Jr 1 n f).2],[]):=by
  have hn:=CE (ET hF)
  have hs:Ah n = true:=decide_eq_true hn
  have hk:BL 8 (ofNat n) (ofNat n) = true:=by
    have:=Ht hF
    simp only [BL,Bool.and_eq_true,decide_eq_true_eq,Int.ofNat_eq_natCast]
    omega
  unfold Jr
  cases hA:ilt (ofNat n) 2 with
  | true=>exact Adf _ n f hA
  | false =>
    cases hB:ilt 16 (ofNat n) with
    | true=>exact Ade _ n f hA hB
    | false =>
      show _ = some (V.tup [iV (match Dn 1 n f,ieq (Dn 1 n f).1 0 with | r,false=>r | _,true=>EG n f).1,iV (match Dn 1 n f,ieq (Dn 1 n f).1 0 with | r,false=>r | _,true=>EG n f).2],[])
      cases c1:ieq (Dn 1 n f).1 0 with
      | false=>exact Adi _ n f hA hB hF c1
      | true =>
        show _ = some (V.tup [iV (EG n f).1,iV (EG n f).2],[])
        unfold EG
        cases c3:ilt (DZ n f) 2 with
        | true=>exact Adg _ n f hA hB hF c1 hs c3
        | false =>
          cases c4:ilt (EV n f) 2 with
          | true=>exact Adh _ n f hA hB hF c1 hs c3 c4
          | false =>
            show _ = some (V.tup [iV (Is n f).1,iV (Is n f).2],[])
            unfold Is
            cases c5:crB n (A0 (fun k=>Au (f k)) n) (fun i=>isW (f i)) 2 with
            | true =>
              rw [show crR n (A0 (fun k=>Au (f k)) n) (fun i=>isW (f i)) 2 = (crI n (A0 (fun k=>Au (f k)) n) (fun i=>isW (f i)) 2,true) from Prod.ext rfl c5]
              exact Add _ n f hA hB hF c1 hs c3 c4 hk (Nat.beq_refl n) (Dt _ n hn) c5
            | false =>
              rw [show crR n (A0 (fun k=>Au (f k)) n) (fun i=>isW (f i)) 2 = (crI n (A0 (fun k=>Au (f k)) n) (fun i=>isW (f i)) 2,false) from Prod.ext rfl c5]
              cases c6:crB n (A0 (fun k=>Az (f k)) n) (fun _=>true) 12 with
              | true =>
                rw [show crR n (A0 (fun k=>Az (f k)) n) (fun _=>true) 12 = (crI n (A0 (fun k=>Az (f k)) n) (fun _=>true) 12,true) from Prod.ext rfl c6]
                exact Adj _ n f hA hB hF c1 hs c3 c4 hk (Nat.beq_refl n) (Dt _ n hn) c5 (Dt _ n hn) c6
              | false =>
                rw [show crR n (A0 (fun k=>Az (f k)) n) (fun _=>true) 12 = (crI n (A0 (fun k=>Az (f k)) n) (fun _=>true) 12,false) from Prod.ext rfl c6]
                exact Adc _ n f hA hB hF c1 hs c3 c4 hk (Nat.beq_refl n) (Dt _ n hn) c5 (Dt _ n hn) c6
theorem Aam (n:Nat) (f:Nat->E6) (hF:AL n = true) :
    (A1 (Al tab (AR Gl Fv []) Try.f50 [iV 2,A2 n f] [])).sem = some (.tup [iV (Jr 2 n f).1,iV (Jr 2 n f).2],[]):=by
  have hn:=CE (ET hF)
  have hs:Ah n = true:=decide_eq_true hn
  have hk:BL 8 (ofNat n) (ofNat n) = true:=by
    have:=Ht hF
    simp only [BL,Bool.and_eq_true,decide_eq_true_eq,Int.ofNat_eq_natCast]
    omega
  unfold Jr
  cases hA:ilt (ofNat n) 2 with
  | true=>exact Adn _ n f hA
  | false =>
    cases hB:ilt 16 (ofNat n) with
    | true=>exact Adm _ n f hA hB
    | false =>
      show _ = some (V.tup [iV (match Dn 2 n f,ieq (Dn 2 n f).1 0 with | r,false=>r | _,true=>EG n f).1,iV (match Dn 2 n f,ieq (Dn 2 n f).1 0 with | r,false=>r | _,true=>EG n f).2],[])
      cases c1:ieq (Dn 2 n f).1 0 with
      | false=>exact Adq _ n f hA hB hF c1
      | true =>
        show _ = some (V.tup [iV (EG n f).1,iV (EG n f).2],[])
        unfold EG
        cases c3:ilt (DZ n f) 2 with
        | true=>exact Ado _ n f hA hB hF c1 hs c3
        | false =>
          cases c4:ilt (EV n f) 2 with
          | true=>exact Adp _ n f hA hB hF c1 hs c3 c4
          | false =>
            show _ = some (V.tup [iV (Is n f).1,iV (Is n f).2],[])
            unfold Is
            cases c5:crB n (A0 (fun k=>Au (f k)) n) (fun i=>isW (f i)) 2 with
            | true =>
              rw [show crR n (A0 (fun k=>Au (f k)) n) (fun i=>isW (f i)) 2 = (crI n (A0 (fun k=>Au (f k)) n) (fun i=>isW (f i)) 2,true) from Prod.ext rfl c5]
              exact Adl _ n f hA hB hF c1 hs c3 c4 hk (Nat.beq_refl n) (Dt _ n hn) c5
            | false =>
              rw [show crR n (A0 (fun k=>Au (f k)) n) (fun i=>isW (f i)) 2 = (crI n (A0 (fun k=>Au (f k)) n) (fun i=>isW (f i)) 2,false) from Prod.ext rfl c5]
              cases c6:crB n (A0 (fun k=>Az (f k)) n) (fun _=>true) 12 with
              | true =>
                rw [show crR n (A0 (fun k=>Az (f k)) n) (fun _=>true) 12 = (crI n (A0 (fun k=>Az (f k)) n) (fun _=>true) 12,true) from Prod.ext rfl c6]
                exact Adr _ n f hA hB hF c1 hs c3 c4 hk (Nat.beq_refl n) (Dt _ n hn) c5 (Dt _ n hn) c6
              | false =>
                rw [show crR n (A0 (fun k=>Az (f k)) n) (fun _=>true) 12 = (crI n (A0 (fun k=>Az (f k)) n) (fun _=>true) 12,false) from Prod.ext rfl c6]
                exact Adk _ n f hA hB hF c1 hs c3 c4 hk (Nat.beq_refl n) (Dt _ n hn) c5 (Dt _ n hn) c6
theorem p48:AD Try.prog Gl 50 WT:=by
  refine A5 AO AP Try.func50 (by kernel_rfl) (by kernel_rfl) fun vs v h' h=>?_
  unfold WT at h
  split at h
  · rename_i a u
    obtain ⟨n,f,ha,h1⟩:=BU h
    obtain ⟨hn,hq⟩:=Ag h1
    have:=Ac hq
    simp only [Prod.mk.injEq] at this
    obtain ⟨rfl,rfl⟩:=this
    cases ca:ieq a 1 with
    | true =>
      have h9:=Gr ca
      subst h9
      have hx:=AQ PG []
      exact ⟨_,AR Gl Fv [],_,QZ ha,rfl,hx.1,hx.2,Aal n f hn,AB.refl _⟩
    | false =>
      cases cb:ieq a 2 with
      | true =>
        have h9:=Gr cb
        subst h9
        have hx:=AQ PG []
        exact ⟨_,AR Gl Fv [],_,QZ ha,rfl,hx.1,hx.2,Aam n f hn,AB.refl _⟩
      | false =>
        have hx:=AQ PG []
        refine ⟨_,AR Gl Fv [],_,QZ ha,rfl,hx.1,hx.2,?_,AB.refl _⟩
        unfold OF
        rw [ca,cb]
        exact AgD _ a n f ca cb
  · cases h
end Go.Proofs.Ytjhnfomefcngfaa.Ed
