/-
  Check, the program's and the document's: one answer. No conditions.
-/
import Derived.Test.YtjhnfomefcngfaaCyR
namespace Go.Proofs.Ytjhnfomefcngfaa.Ed
open Go.Sy
open Int (ofNat)
abbrev U:V:=.und
noncomputable def Dd:List (Nat × (List V->T (V × List Blk))):=(64,BN fun e=>iV (AT e)) :: (65,ap2 gI toE fun a e=>out (RW a e)) :: (22,BN fun e=>bV (Ay e)) :: (23,BN fun e=>bV (Au e)) :: (66,Qb) :: (67,Qa) :: (68,Zs) :: []
theorem PE:AC Try.prog Gl Dd:=.cons p29 <| .cons p33 <| .cons p60 <| .cons p61 <| .cons p94 <| .cons p95 <| .cons p96 .nil
def Ew (n:Nat) (f:Nat->E6):Int:=ofNat (Ak (fun k=>Ay (f k)) n)
def FD (n:Nat) (f:Nat->E6):Int:=ofNat (Ak (fun k=>Au (f k)) n)
def JM (n:Nat) (f:Nat->E6):Int × Int :=
  match crR n (A0 (fun k=>Au (f k)) n) (fun i=>isW (f i)) 2 with
  | (i,true)=>(44,i)
  | (_,false)=>match crR n (A0 (fun k=>Ay (f k)) n) (fun _=>true) 12 with
    | (i,true)=>(45,i)
    | (_,false)=>(0,0)
def Fl (n:Nat) (f:Nat->E6):Int × Int :=
  match ilt (Ew n f) 2,ilt (FD n f) 2 with
  | true,_=>(42,0)
  | false,true=>(43,0)
  | false,false=>JM n f
def JN (a:Int) (n:Nat) (f:Nat->E6):Int × Int :=
  match ilt (ofNat n) 2,ilt 16 (ofNat n) with
  | true,_=>(40,0)
  | false,true=>(40,0)
  | false,false=>match D7 a n f,ieq (D7 a n f).1 0 with
    | r,false=>r
    | _,true=>Fl n f
def QX (a:Int) (n:Nat) (f:Nat->E6):Int × Int :=
  match ieq a 1,ieq a 2 with
  | false,false=>(1,0)
  | _,_=>JN a n f
def WH:List V->T (V × List Blk)
  | [.val (.int .i64 a),v]=>apL v fun n f=>.br (AL n) (out (.tup [iV (QX a n f).1,iV (QX a n f).2])) .fail
  | _=>.fail
theorem Ab7 {a:Int} {n:Nat} {f:Nat->E6} (h:ieq a 1 = true ∨ ieq a 2 = true):QX a n f = JN a n f:=by
  unfold QX
  rcases h with h | h
  · rw [h]
  · rw [h]
    cases ieq a 1 <;> rfl
def Kn (n:Nat) (_:Nat->E6):Lp:=⟨(bmK 133 0 [0,1,4,5,6,7,8,9]),0,bmK 133 0 [1,4,5,6,7,8],0,n+1⟩
def CZ (n:Nat) (f:Nat->E6) (x y:Int) (i:Nat) (j:Nat->V):St:=⟨(jsV 133 0 j [(0,iV 1),(1,.sl 6 n (fun i=>eV (f i))),(4,iV 0),(5,iV 0),(6,nV n),(7,iV x),(8,iV y),(9,nV i)]),[]⟩
def Cq (n:Nat) (f:Nat->E6) (x y:Int) (_:Nat):Ex × St:=(.ex 0,⟨(jsV 133 0 (fun _=>.und) [(1,.sl 6 n (fun i=>eV (f i))),(4,iV 0),(5,iV 0),(6,nV n),(7,iV x),(8,iV y)]),[]⟩)
def QB (n:Nat) (f:Nat->E6) (x y:Int) (i:Nat):Ex × St:=(.rt,⟨(jsV 133 0 (fun _=>.und) [(1,.sl 6 n (fun i=>eV (f i))),(4,iV 30),(5,nV i),(6,nV n),(7,iV x),(8,iV y)]),[]⟩)
def QA (n:Nat) (f:Nat->E6) (x y:Int) (i:Nat):Ex × St:=(.rt,⟨(jsV 133 0 (fun _=>.und) [(1,.sl 6 n (fun i=>eV (f i))),(4,iV 5),(5,nV i),(6,nV n),(7,iV x),(8,iV y)]),[]⟩)
noncomputable def B9 (L:LT):St->T (Ex × St):=fun st=>AE tab ⟨Ao Dd,L,Gl⟩ (Az Try.f19 0) 0 st
section
variable (L:LT) (n:Nat) (f:Nat->E6) (x y:Int) (i:Nat)  (j:Nat->V)
include L n f x y i j
theorem Afu (h0:ilt (ofNat i) (ofNat n) = false):Al (B9 L) (Kn n f) (CZ n f x y i j) = some ((.ex 0),⟨(jsV 133 0 (fun _=>.und) [(1,(.sl 6 n (fun i=>eV (f i)))),(4,(iV 0)),(5,(iV 0)),(6,(nV n)),(7,(iV x)),(8,(iV y))]),[]⟩):=Aa [false] [ilt (ofNat i) (ofNat n)] (by kernel_rfl) (by simp only [h0] <;> rfl)
theorem Aft (h0:ilt (ofNat i) (ofNat n) = true) (h1:Ag (ile 0 (ofNat i)) (ilt (ofNat i) (ofNat n)) = true) (h2:ieq (AT (f i)) 0 = false):Al (B9 L) (Kn n f) (CZ n f x y i j) = some (.rt,⟨(jsV 133 0 (fun _=>.und) [(1,(.sl 6 n (fun i=>eV (f i)))),(4,(iV 30)),(5,(nV i)),(6,(nV n)),(7,(iV x)),(8,(iV y))]),[]⟩):=Aa [true,true,true] [ilt (ofNat i) (ofNat n),Ag (ile 0 (ofNat i)) (ilt (ofNat i) (ofNat n)),Am (ieq (AT (f i)) 0)] (by kernel_rfl) (by simp only [h1] <;> simp only [h0,h2] <;> rfl)
theorem Afs (h0:ilt (ofNat i) (ofNat n) = true) (h1:Ag (ile 0 (ofNat i)) (ilt (ofNat i) (ofNat n)) = true) (h2:ieq (AT (f i)) 0 = true) (h3:DH 1 (f i) = false):Al (B9 L) (Kn n f) (CZ n f x y i j) = some (.rt,⟨(jsV 133 0 (fun _=>.und) [(1,(.sl 6 n (fun i=>eV (f i)))),(4,(iV 5)),(5,(nV i)),(6,(nV n)),(7,(iV x)),(8,(iV y))]),[]⟩):=Aa [true,true,false,true,true] ((fun c0=>[ilt (ofNat i) (ofNat n),c0,Am (ieq (AT (f i)) 0),c0,Am (DH 1 (f i))]) (Ag (ile 0 (ofNat i)) (ilt (ofNat i) (ofNat n)))) (by kernel_rfl) (by simp only [h1] <;> simp only [*] <;> rfl)
theorem Aa5 (h0:ilt (ofNat i) (ofNat n) = true) (h1:Ag (ile 0 (ofNat i)) (ilt (ofNat i) (ofNat n)) = true) (h2:ieq (AT (f i)) 0 = true) (h3:DH 1 (f i) = true) (h4:Ay (f i) = false) (h5:Au (f i) = false):Al (B9 L) (Kn n f) (CZ n f x y i j) = some (.nm,⟨(jsV 133 0 (fun _=>.und) [(0,(iV 1)),(1,(.sl 6 n (fun i=>eV (f i)))),(4,(iV 0)),(5,(iV 0)),(6,(nV n)),(7,(iV x)),(8,(iV y)),(9,(iV (wr .i64 (Af (ofNat i) 1))))]),[]⟩):=Aa (bbK 9 171) ((fun c0=>[ilt (ofNat i) (ofNat n),c0,Am (ieq (AT (f i)) 0),c0,Am (DH 1 (f i)),c0,Ay (f i),c0,Au (f i)]) (Ag (ile 0 (ofNat i)) (ilt (ofNat i) (ofNat n)))) (by kernel_rfl) (by simp only [h1] <;> simp only [*] <;> rfl)
theorem Aa6 (h0:ilt (ofNat i) (ofNat n) = true) (h1:Ag (ile 0 (ofNat i)) (ilt (ofNat i) (ofNat n)) = true) (h2:ieq (AT (f i)) 0 = true) (h3:DH 1 (f i) = true) (h4:Ay (f i) = false) (h5:Au (f i) = true):Al (B9 L) (Kn n f) (CZ n f x y i j) = some (.nm,⟨(jsV 133 0 (fun _=>.und) [(0,(iV 1)),(1,(.sl 6 n (fun i=>eV (f i)))),(4,(iV 0)),(5,(iV 0)),(6,(nV n)),(7,(iV x)),(8,(iV (wr .i64 (Af y 1)))),(9,(iV (wr .i64 (Af (ofNat i) 1))))]),[]⟩):=Aa (bbK 9 427) ((fun c0=>[ilt (ofNat i) (ofNat n),c0,Am (ieq (AT (f i)) 0),c0,Am (DH 1 (f i)),c0,Ay (f i),c0,Au (f i)]) (Ag (ile 0 (ofNat i)) (ilt (ofNat i) (ofNat n)))) (by kernel_rfl) (by simp only [h1] <;> simp only [*] <;> rfl)
theorem Aa3 (h0:ilt (ofNat i) (ofNat n) = true) (h1:Ag (ile 0 (ofNat i)) (ilt (ofNat i) (ofNat n)) = true) (h2:ieq (AT (f i)) 0 = true) (h3:DH 1 (f i) = true) (h4:Ay (f i) = true) (h5:Au (f i) = false):Al (B9 L) (Kn n f) (CZ n f x y i j) = some (.nm,⟨(jsV 133 0 (fun _=>.und) [(0,(iV 1)),(1,(.sl 6 n (fun i=>eV (f i)))),(4,(iV 0)),(5,(iV 0)),(6,(nV n)),(7,(iV (wr .i64 (Af x 1)))),(8,(iV y)),(9,(iV (wr .i64 (Af (ofNat i) 1))))]),[]⟩):=Aa (bbK 9 235) ((fun c0=>[ilt (ofNat i) (ofNat n),c0,Am (ieq (AT (f i)) 0),c0,Am (DH 1 (f i)),c0,Ay (f i),c0,Au (f i)]) (Ag (ile 0 (ofNat i)) (ilt (ofNat i) (ofNat n)))) (by kernel_rfl) (by simp only [h1] <;> simp only [*] <;> rfl)
theorem Aa4 (h0:ilt (ofNat i) (ofNat n) = true) (h1:Ag (ile 0 (ofNat i)) (ilt (ofNat i) (ofNat n)) = true) (h2:ieq (AT (f i)) 0 = true) (h3:DH 1 (f i) = true) (h4:Ay (f i) = true) (h5:Au (f i) = true):Al (B9 L) (Kn n f) (CZ n f x y i j) = some (.nm,⟨(jsV 133 0 (fun _=>.und) [(0,(iV 1)),(1,(.sl 6 n (fun i=>eV (f i)))),(4,(iV 0)),(5,(iV 0)),(6,(nV n)),(7,(iV (wr .i64 (Af x 1)))),(8,(iV (wr .i64 (Af y 1)))),(9,(iV (wr .i64 (Af (ofNat i) 1))))]),[]⟩):=Aa (bbK 9 491) ((fun c0=>[ilt (ofNat i) (ofNat n),c0,Am (ieq (AT (f i)) 0),c0,Am (DH 1 (f i)),c0,Ay (f i),c0,Au (f i)]) (Ag (ile 0 (ofNat i)) (ilt (ofNat i) (ofNat n)))) (by kernel_rfl) (by simp only [h1] <;> simp only [*] <;> rfl)
end
def Fc (n:Nat) (f:Nat->E6) :Nat->V:=lkV A8 [(17,(iV 1)),(18,(bV (Am (ieq 1 1)))),(19,(bV (Am (ieq 1 1)))),(22,(bV false)),(23,(.sl 6 n (fun i=>eV (f i)))),(24,(nV n)),(25,(nV n)),(26,(bV (ilt (ofNat n) 2))),(27,(bV (ilt (ofNat n) 2))),(28,(nV n)),(29,(bV (ilt 16 (ofNat n)))),(30,(bV (ilt 16 (ofNat n))))]
def Kr (n:Nat) (_:Nat->E6):Lp:=⟨(bmK 133 0 [1,4,5,6,7,8,12]),0,bmK 133 0 [1,4,5,6,7,8],0,n+1⟩
def C8 (n:Nat) (f:Nat->E6) (x y:Int) (i:Nat) (j:Nat->V):St:=⟨(jsV 133 0 j [(1,.sl 6 n (fun i=>eV (f i))),(4,iV 0),(5,iV 0),(6,nV n),(7,iV x),(8,iV y),(12,nV i)]),[]⟩
def BR (n:Nat) (f:Nat->E6) (x y:Int) (_:Nat):Ex × St:=(.ex 2,⟨(jsV 133 0 (fun _=>.und) [(1,.sl 6 n (fun i=>eV (f i))),(4,iV 0),(5,iV 0),(6,nV n),(7,iV x),(8,iV y)]),[]⟩)
def GS (n:Nat) (f:Nat->E6) (x y:Int) (i:Nat):Ex × St:=(.rt,⟨(jsV 133 0 (fun _=>.und) [(1,.sl 6 n (fun i=>eV (f i))),(4,iV 41),(5,nV i),(6,nV n),(7,iV x),(8,iV y)]),[]⟩)
noncomputable def BG (L:LT):St->T (Ex × St):=fun st=>AE tab ⟨Ao Dd,L,Gl⟩ (Az Try.f19 2) 2 st
section
variable (L:LT) (n:Nat) (f:Nat->E6) (x y:Int) (i:Nat)  (j:Nat->V)
include L n f x y i j
theorem Afn (h0:ilt (ofNat i) (ofNat n) = false):Al (BG L) (Kr n f) (C8 n f x y i j) = some ((.ex 2),⟨(jsV 133 0 (fun _=>.und) [(1,(.sl 6 n (fun i=>eV (f i)))),(4,(iV 0)),(5,(iV 0)),(6,(nV n)),(7,(iV x)),(8,(iV y))]),[]⟩):=Aa [false] [ilt (ofNat i) (ofNat n)] (by kernel_rfl) (by simp only [h0] <;> rfl)
theorem Afm (h0:ilt (ofNat i) (ofNat n) = true) (h1:Ag (ile 0 (ofNat i)) (ilt (ofNat i) (ofNat n)) = true) (h2:ieq (ofNat n) 0 = false) (h3:Ag (ile 0 (Ae (wr .i64 (Af (ofNat i) 1)) (ofNat n))) (ilt (Ae (wr .i64 (Af (ofNat i) 1)) (ofNat n)) (ofNat n)) = true) (h4:ieq ((f i)).dst ((f (toN (Ae (wr .i64 (Af (ofNat i) 1)) (ofNat n))))).src = false):Al (BG L) (Kr n f) (C8 n f x y i j) = some (.rt,⟨(jsV 133 0 (fun _=>.und) [(1,(.sl 6 n (fun i=>eV (f i)))),(4,(iV 41)),(5,(nV i)),(6,(nV n)),(7,(iV x)),(8,(iV y))]),[]⟩):=Aa [true,true,false,true,true] [ilt (ofNat i) (ofNat n),Ag (ile 0 (ofNat i)) (ilt (ofNat i) (ofNat n)),ieq (ofNat n) 0,Ag (ile 0 (Ae (wr .i64 (Af (ofNat i) 1)) (ofNat n))) (ilt (Ae (wr .i64 (Af (ofNat i) 1)) (ofNat n)) (ofNat n)),Am (ieq ((f i)).dst ((f (toN (Ae (wr .i64 (Af (ofNat i) 1)) (ofNat n))))).src)] (by kernel_rfl) (by simp only [h1,h3] <;> simp only [*] <;> rfl)
theorem Afl (h0:ilt (ofNat i) (ofNat n) = true) (h1:Ag (ile 0 (ofNat i)) (ilt (ofNat i) (ofNat n)) = true) (h2:ieq (ofNat n) 0 = false) (h3:Ag (ile 0 (Ae (wr .i64 (Af (ofNat i) 1)) (ofNat n))) (ilt (Ae (wr .i64 (Af (ofNat i) 1)) (ofNat n)) (ofNat n)) = true) (h4:ieq ((f i)).dst ((f (toN (Ae (wr .i64 (Af (ofNat i) 1)) (ofNat n))))).src = true):Al (BG L) (Kr n f) (C8 n f x y i j) = some (.nm,⟨(jsV 133 0 (fun _=>.und) [(1,(.sl 6 n (fun i=>eV (f i)))),(4,(iV 0)),(5,(iV 0)),(6,(nV n)),(7,(iV x)),(8,(iV y)),(12,(iV (wr .i64 (Af (ofNat i) 1))))]),[]⟩):=Aa [true,true,false,true,false] [ilt (ofNat i) (ofNat n),Ag (ile 0 (ofNat i)) (ilt (ofNat i) (ofNat n)),ieq (ofNat n) 0,Ag (ile 0 (Ae (wr .i64 (Af (ofNat i) 1)) (ofNat n))) (ilt (Ae (wr .i64 (Af (ofNat i) 1)) (ofNat n)) (ofNat n)),Am (ieq ((f i)).dst ((f (toN (Ae (wr .i64 (Af (ofNat i) 1)) (ofNat n))))).src)] (by kernel_rfl) (by simp only [h1,h3] <;> simp only [*] <;> rfl)
end
def DB (_:Nat) (_:Nat->E6) (_ _:Int) (_:Nat):Nat->V:=lkV A8 [(0,.und),(2,.und),(3,.und),(9,.und),(10,.und),(11,.und),(13,.und),(14,.und),(15,.und),(16,.und),(17,.und),(18,.und),(19,.und),(20,.und),(21,.und),(22,.und),(23,.und),(24,.und),(25,.und),(26,.und),(27,.und),(28,.und),(29,.und),(30,.und),(31,.und),(32,.und),(33,.und),(34,.und),(35,.und),(36,.und),(37,.und),(38,.und),(39,.und),(40,.und),(41,.und),(42,.und),(43,.und),(44,.und),(45,.und),(46,.und),(47,.und),(48,.und),(49,.und),(50,.und),(51,.und),(52,.und),(53,.und),(54,.und),(55,.und),(56,.und),(57,.und),(58,.und),(59,.und),(60,.und),(61,.und),(62,.und),(63,.und),(64,.und),(65,.und),(66,.und),(67,.und),(68,.und),(69,.und),(70,.und),(71,.und),(72,.und),(73,.und),(74,.und),(75,.und),(76,.und),(77,.und),(78,.und),(79,.und),(80,.und),(81,.und),(82,.und),(83,.und),(84,.und),(85,.und),(86,.und),(87,.und),(88,.und),(89,.und),(90,.und),(91,.und),(92,.und),(93,.und),(94,.und),(95,.und),(96,.und),(97,.und),(98,.und),(99,.und),(100,.und),(101,.und),(102,.und),(103,.und),(104,.und),(105,.und),(106,.und),(107,.und),(108,.und),(109,.und),(110,.und),(111,.und),(112,.und),(113,.und),(114,.und),(115,.und),(116,.und),(117,.und),(118,.und),(119,.und),(120,.und),(121,.und),(122,.und),(123,.und),(124,.und),(125,.und),(126,.und),(127,.und),(128,.und),(129,.und),(130,.und),(131,.und),(132,.und)]
def IY (n:Nat) (_:Nat->E6):Lp:=⟨(bmK 133 0 [1,4,5,6,13,14,15]),2,bmK 133 0 [1,4,5,6,13],2,n+1⟩
def DY (n:Nat) (f:Nat->E6) (u v:Nat->Int) (i:Nat) (j:Nat->V):St:=⟨(jsV 133 0 j [(1,.sl 6 n (fun i=>eV (f i))),(4,iV 0),(5,iV 0),(6,nV n),(13,.ref 0),(14,.ref 1),(15,nV i)]),[.row 3 1 n (fun k=>iV (u k)),.row 3 1 n (fun k=>iV (v k))]⟩
def Iz (n:Nat) (f:Nat->E6) (u v:Nat->Int) (_:Nat):Ex × St:=(.ex 4,⟨(jsV 133 0 (fun _=>.und) [(1,.sl 6 n (fun i=>eV (f i))),(4,iV 0),(5,iV 0),(6,nV n),(13,.ref 0)]),[.row 3 1 n (fun k=>iV (u k)),.row 3 1 n (fun k=>iV (v k))]⟩)
def NZ (n:Nat) (f:Nat->E6) (u v:Nat->Int) (i:Nat):Ex × St:=(.rt,⟨(jsV 133 0 (fun _=>.und) [(1,.sl 6 n (fun i=>eV (f i))),(4,iV 44),(5,nV i),(6,nV n),(13,.ref 0)]),[.row 3 1 n (fun k=>iV (u k)),.row 3 1 n (fun k=>iV (v k))]⟩)
noncomputable def CI (L:LT):St->T (Ex × St):=fun st=>AE tab ⟨Ao Dd,L,Gl⟩ (Az Try.f19 4) 4 st
section
variable (L:LT) (n:Nat) (f:Nat->E6) (u v:Nat->Int) (i:Nat)  (j:Nat->V)
include L n f u v i j
theorem AeA (h0:ilt (ofNat i) (ofNat n) = false):Al (CI L) (IY n f) (DY n f u v i j) = some ((.ex 4),⟨(jsV 133 0 (fun _=>.und) [(1,(.sl 6 n (fun i=>eV (f i)))),(4,(iV 0)),(5,(iV 0)),(6,(nV n)),(13,(.ref 0))]),[.row 3 1 n (fun k=>iV (u k)),.row 3 1 n (fun k=>iV (v k))]⟩):=Aa [false] [ilt (ofNat i) (ofNat n)] (by kernel_rfl) (by simp only [h0] <;> rfl)
theorem AeD (h0:ilt (ofNat i) (ofNat n) = true) (h1:Ag (ile 0 (ofNat i)) (ilt (ofNat i) (ofNat n)) = true) (h2:ieq ((f i)).src 2 = false):Al (CI L) (IY n f) (DY n f u v i j) = some (.nm,⟨(jsV 133 0 (fun _=>.und) [(1,(.sl 6 n (fun i=>eV (f i)))),(4,(iV 0)),(5,(iV 0)),(6,(nV n)),(13,(.ref 0)),(14,(.ref 1)),(15,(iV (wr .i64 (Af (ofNat i) 1))))]),[.row 3 1 n (fun k=>iV (u k)),.row 3 1 n (fun k=>iV (v k))]⟩):=Aa (bbK 12 3) ((fun c0=>[ilt (ofNat i) (ofNat n),Ag (ile 0 (ofNat i)) (ilt (ofNat i) (ofNat n)),c0,c0,c0,c0,c0,c0,c0,c0,c0,false]) (ieq ((f i)).src 2)) (by kernel_rfl) (by simp only [h1] <;> simp only [h0,h2] <;> rfl)
theorem AeC (h0:ilt (ofNat i) (ofNat n) = true) (h1:Ag (ile 0 (ofNat i)) (ilt (ofNat i) (ofNat n)) = true) (h2:ieq ((f i)).src 2 = true) (h15:nlt i n = true) (h3:AV n n = true) (h4:Ab n = true) (h5:ilt 2 (Eh n v (fun i=>bor (Am true) (isW (f i))) (v i)) = false):Al (CI L) (IY n f) (DY n f u v i j) = some (.nm,⟨(jsV 133 0 (fun _=>.und) [(1,(.sl 6 n (fun i=>eV (f i)))),(4,(iV 0)),(5,(iV 0)),(6,(nV n)),(13,(.ref 0)),(14,(.ref 1)),(15,(iV (wr .i64 (Af (ofNat i) 1))))]),[.row 3 1 n (fun k=>iV (u k)),.row 3 1 n (fun k=>iV (v k))]⟩):=Aa (bbK 18 131071) ((fun c0 c1 c2=>[ilt (ofNat i) (ofNat n),c0,c1,c1,c1,c1,c1,c0,c1,nlt i n,c1,c2,c2,AV n n,Ab n,c1,c1,ilt 2 (Eh n v (fun i=>bor (Am true) (isW (f i))) (v i))]) (Ag (ile 0 (ofNat i)) (ilt (ofNat i) (ofNat n))) (ieq ((f i)).src 2) (Ai n (fun _=>true))) (by kernel_rfl) (by simp only [h1] <;> simp only [*,Ar] <;> rfl)
theorem AeB (h0:ilt (ofNat i) (ofNat n) = true) (h1:Ag (ile 0 (ofNat i)) (ilt (ofNat i) (ofNat n)) = true) (h2:ieq ((f i)).src 2 = true) (h15:nlt i n = true) (h3:AV n n = true) (h4:Ab n = true) (h5:ilt 2 (Eh n v (fun i=>bor (Am true) (isW (f i))) (v i)) = true):Al (CI L) (IY n f) (DY n f u v i j) = some (.rt,⟨(jsV 133 0 (fun _=>.und) [(1,(.sl 6 n (fun i=>eV (f i)))),(4,(iV 44)),(5,(nV i)),(6,(nV n)),(13,(.ref 0))]),[.row 3 1 n (fun k=>iV (u k)),.row 3 1 n (fun k=>iV (v k))]⟩):=Aa (bbK 18 262143) ((fun c0 c1 c2=>[ilt (ofNat i) (ofNat n),c0,c1,c1,c1,c1,c1,c0,c1,nlt i n,c1,c2,c2,AV n n,Ab n,c1,c1,ilt 2 (Eh n v (fun i=>bor (Am true) (isW (f i))) (v i))]) (Ag (ile 0 (ofNat i)) (ilt (ofNat i) (ofNat n))) (ieq ((f i)).src 2) (Ai n (fun _=>true))) (by kernel_rfl) (by simp only [h1] <;> simp only [*,Ar] <;> rfl)
end
def Jd (n:Nat) (f:Nat->E6) (x y:Int) (_ _:Nat):Nat->V:=lkV A8 [(0,.und),(2,.und),(3,.und),(7,(iV x)),(8,(iV y)),(9,.und),(10,.und),(11,.und),(12,.und),(16,.und),(17,.und),(18,.und),(19,.und),(20,.und),(21,.und),(22,.und),(23,.und),(24,.und),(25,.und),(26,.und),(27,.und),(28,.und),(29,.und),(30,.und),(31,.und),(32,.und),(33,.und),(34,.und),(35,.und),(36,.und),(37,.und),(38,.und),(39,.und),(40,.und),(41,.und),(42,.und),(43,.und),(44,.und),(45,.und),(46,.und),(47,.und),(48,.und),(49,.und),(50,.und),(51,.und),(52,.und),(53,.und),(54,.und),(55,.und),(56,.und),(57,.und),(58,.und),(59,.und),(60,.und),(61,.und),(62,.und),(63,.und),(64,.und),(65,.und),(66,.und),(67,.und),(68,.und),(69,.und),(70,.und),(71,.und),(72,.und),(73,.und),(74,.und),(75,.und),(76,.und),(77,.und),(78,.und),(79,.und),(80,.und),(81,.und),(82,.und),(83,.und),(84,.und),(85,.und),(86,.und),(87,.und),(88,.und),(89,(iV x)),(90,(bV (ilt x 2))),(91,(iV y)),(92,(bV (ilt y 2))),(93,(.sl 6 n (fun i=>eV (f i)))),(94,(.ref 0)),(95,(.sl 6 n (fun i=>eV (f i)))),(96,(.ref 1)),(97,.und),(98,.und),(99,.und),(100,.und),(101,.und),(102,.und),(103,.und),(104,.und),(105,.und),(106,.und),(107,.und),(108,.und),(109,.und),(110,.und),(111,.und),(112,.und),(113,.und),(114,.und),(115,.und),(116,.und),(117,.und),(118,.und),(119,.und),(120,.und),(121,.und),(122,.und),(123,.und),(124,.und),(125,.und),(126,.und),(127,.und),(128,.und),(129,.und),(130,.und),(131,.und),(132,.und)]
def Kp (n:Nat) (_:Nat->E6):Lp:=⟨(bmK 133 0 [1,4,5,6,13,16]),2,bmK 133 0 [4,5],0,n+1⟩
def FN (n:Nat) (f:Nat->E6) (u v:Nat->Int) (i:Nat) (j:Nat->V):St:=⟨(jsV 133 0 j [(1,.sl 6 n (fun i=>eV (f i))),(4,iV 0),(5,iV 0),(6,nV n),(13,.ref 0),(16,nV i)]),[.row 3 1 n (fun k=>iV (u k)),.row 3 1 n (fun k=>iV (v k))]⟩
def NV (_:Nat) (_:Nat->E6) (_ _:Nat->Int) (_:Nat):Ex × St:=(.ex 6,⟨(jsV 133 0 (fun _=>.und) [(4,iV 0),(5,iV 0)]),[]⟩)
def NW (_:Nat) (_:Nat->E6) (_ _:Nat->Int) (i:Nat):Ex × St:=(.rt,⟨(jsV 133 0 (fun _=>.und) [(4,iV 45),(5,nV i)]),[]⟩)
noncomputable def DU (L:LT):St->T (Ex × St):=fun st=>AE tab ⟨Ao Dd,L,Gl⟩ (Az Try.f19 6) 6 st
section
variable (L:LT) (n:Nat) (f:Nat->E6) (u v:Nat->Int) (i:Nat)  (j:Nat->V)
include L n f u v i j
theorem Aer (h0:ilt (ofNat i) (ofNat n) = false):Al (DU L) (Kp n f) (FN n f u v i j) = some ((.ex 6),⟨(jsV 133 0 (fun _=>.und) [(4,(iV 0)),(5,(iV 0))]),[]⟩):=Aa [false] [ilt (ofNat i) (ofNat n)] (by kernel_rfl) (by simp only [h0] <;> rfl)
theorem Aet (h0:ilt (ofNat i) (ofNat n) = true) (h1:Ag (ile 0 (ofNat i)) (ilt (ofNat i) (ofNat n)) = true) (h14:nlt i n = true) (h2:AV n n = true) (h3:Ab n = true) (h4:ilt 12 (Eh n u (fun i=>bor (Am false) (isW (f i))) (u i)) = false):Al (DU L) (Kp n f) (FN n f u v i j) = some (.nm,⟨(jsV 133 0 (fun _=>.und) [(1,(.sl 6 n (fun i=>eV (f i)))),(4,(iV 0)),(5,(iV 0)),(6,(nV n)),(13,(.ref 0)),(16,(iV (wr .i64 (Af (ofNat i) 1))))]),[.row 3 1 n (fun k=>iV (u k)),.row 3 1 n (fun k=>iV (v k))]⟩):=Aa (bbK 8 127) [ilt (ofNat i) (ofNat n),Ag (ile 0 (ofNat i)) (ilt (ofNat i) (ofNat n)),nlt i n,Ai n (fun _=>true),Ai n (fun _=>true),AV n n,Ab n,ilt 12 (Eh n u (fun i=>bor (Am false) (isW (f i))) (u i))] (by kernel_rfl) (by simp only [h1] <;> simp only [*,Ar] <;> rfl)
theorem Aes (h0:ilt (ofNat i) (ofNat n) = true) (h1:Ag (ile 0 (ofNat i)) (ilt (ofNat i) (ofNat n)) = true) (h14:nlt i n = true) (h2:AV n n = true) (h3:Ab n = true) (h4:ilt 12 (Eh n u (fun i=>bor (Am false) (isW (f i))) (u i)) = true):Al (DU L) (Kp n f) (FN n f u v i j) = some (.rt,⟨(jsV 133 0 (fun _=>.und) [(4,(iV 45)),(5,(nV i))]),[]⟩):=Aa (bbK 8 255) [ilt (ofNat i) (ofNat n),Ag (ile 0 (ofNat i)) (ilt (ofNat i) (ofNat n)),nlt i n,Ai n (fun _=>true),Ai n (fun _=>true),AV n n,Ab n,ilt 12 (Eh n u (fun i=>bor (Am false) (isW (f i))) (u i))] (by kernel_rfl) (by simp only [h1] <;> simp only [*,Ar] <;> rfl)
end
def Mv (_:Nat) (_:Nat->E6) (_ _:Int) (_ _:Nat) (_ _:Nat->Int) (_:Nat):Nat->V:=lkV A8 [(0,.und),(2,.und),(3,.und),(7,.und),(8,.und),(9,.und),(10,.und),(11,.und),(12,.und),(14,.und),(15,.und),(17,.und),(18,.und),(19,.und),(20,.und),(21,.und),(22,.und),(23,.und),(24,.und),(25,.und),(26,.und),(27,.und),(28,.und),(29,.und),(30,.und),(31,.und),(32,.und),(33,.und),(34,.und),(35,.und),(36,.und),(37,.und),(38,.und),(39,.und),(40,.und),(41,.und),(42,.und),(43,.und),(44,.und),(45,.und),(46,.und),(47,.und),(48,.und),(49,.und),(50,.und),(51,.und),(52,.und),(53,.und),(54,.und),(55,.und),(56,.und),(57,.und),(58,.und),(59,.und),(60,.und),(61,.und),(62,.und),(63,.und),(64,.und),(65,.und),(66,.und),(67,.und),(68,.und),(69,.und),(70,.und),(71,.und),(72,.und),(73,.und),(74,.und),(75,.und),(76,.und),(77,.und),(78,.und),(79,.und),(80,.und),(81,.und),(82,.und),(83,.und),(84,.und),(85,.und),(86,.und),(87,.und),(88,.und),(89,.und),(90,.und),(91,.und),(92,.und),(93,.und),(94,.und),(95,.und),(96,.und),(97,.und),(98,.und),(99,.und),(100,.und),(101,.und),(102,.und),(103,.und),(104,.und),(105,.und),(106,.und),(107,.und),(108,.und),(109,.und),(110,.und),(111,.und),(112,.und),(113,.und),(114,.und),(115,.und),(116,.und),(117,.und),(118,.und),(119,.und),(120,.und),(121,.und),(122,.und),(123,.und),(124,.und),(125,.und),(126,.und),(127,.und),(128,.und),(129,.und),(130,.und),(131,.und),(132,.und)]
section
variable (L:LT) (p0:PT) (n:Nat) (f:Nat->E6) (x y:Int) (i:Nat)
include L p0 n f x y i
theorem AcN (h0:ilt (ofNat n) 2 = false) (h1:ilt 16 (ofNat n) = false) (hp0:p0 (B9 (onP 0 p0 (QB n f x y i) L)) (CZ n f 0 0 0 (Fc n f )) = true):(As (Aj tab ⟨Ao Dd,onP 0 p0 (QB n f x y i) L,Gl⟩ Try.f19 [iV 1,A2 n f] [])).sem = some ((.tup [iV 30,nV i]),[]):=Aa (bbK 9 256) ((fun c0 c1=>[c0,c0,c0,false,c1,c1,c1,ilt 16 (ofNat n),p0 (B9 (onP 0 p0 (QB n f x y i) L)) (CZ n f 0 0 0 (Fc n f ))]) (Am (ieq 1 1)) (ilt (ofNat n) 2)) (by kernel_rfl) (by simp only [hp0] <;> simp only [h0,h1] <;> rfl)
theorem AcM (h0:ilt (ofNat n) 2 = false) (h1:ilt 16 (ofNat n) = false) (hp0:p0 (B9 (onP 0 p0 (QA n f x y i) L)) (CZ n f 0 0 0 (Fc n f )) = true):(As (Aj tab ⟨Ao Dd,onP 0 p0 (QA n f x y i) L,Gl⟩ Try.f19 [iV 1,A2 n f] [])).sem = some ((.tup [iV 5,nV i]),[]):=Aa (bbK 9 256) ((fun c0 c1=>[c0,c0,c0,false,c1,c1,c1,ilt 16 (ofNat n),p0 (B9 (onP 0 p0 (QA n f x y i) L)) (CZ n f 0 0 0 (Fc n f ))]) (Am (ieq 1 1)) (ilt (ofNat n) 2)) (by kernel_rfl) (by simp only [hp0] <;> simp only [h0,h1] <;> rfl)
end
section
variable (L:LT) (p0:PT) (p2:PT) (n:Nat) (f:Nat->E6) (x y:Int) (i:Nat) (i2:Nat)
include L p0 p2 n f x y i i2
theorem AcL (h0:ilt (ofNat n) 2 = false) (h1:ilt 16 (ofNat n) = false) (hp0:p0 (B9 (onP 0 p0 (Cq n f x y i) (onP 2 p2 (GS n f x y i2) L))) (CZ n f 0 0 0 (Fc n f )) = true) (hp2:p2 (BG (onP 0 p0 (Cq n f x y i) (onP 2 p2 (GS n f x y i2) L))) (C8 n f x y 0 (DB n f x y i)) = true):(As (Aj tab ⟨Ao Dd,onP 0 p0 (Cq n f x y i) (onP 2 p2 (GS n f x y i2) L),Gl⟩ Try.f19 [iV 1,A2 n f] [])).sem = some ((.tup [iV 41,nV i2]),[]):=Aa (bbK 10 768) ((fun c0 c1=>[c0,c0,c0,false,c1,c1,c1,ilt 16 (ofNat n),p0 (B9 (onP 0 p0 (Cq n f x y i) (onP 2 p2 (GS n f x y i2) L))) (CZ n f 0 0 0 (Fc n f )),p2 (BG (onP 0 p0 (Cq n f x y i) (onP 2 p2 (GS n f x y i2) L))) (C8 n f x y 0 (DB n f x y i))]) (Am (ieq 1 1)) (ilt (ofNat n) 2)) (by kernel_rfl) (by simp only [hp0,hp2] <;> simp only [h0,h1] <;> rfl)
theorem AcK (h0:ilt (ofNat n) 2 = false) (h1:ilt 16 (ofNat n) = false) (h2:ilt x 2 = true) (hp0:p0 (B9 (onP 0 p0 (Cq n f x y i) (onP 2 p2 (BR n f x y i2) L))) (CZ n f 0 0 0 (Fc n f )) = true) (hp2:p2 (BG (onP 0 p0 (Cq n f x y i) (onP 2 p2 (BR n f x y i2) L))) (C8 n f x y 0 (DB n f x y i)) = true):(As (Aj tab ⟨Ao Dd,onP 0 p0 (Cq n f x y i) (onP 2 p2 (BR n f x y i2) L),Gl⟩ Try.f19 [iV 1,A2 n f] [])).sem = some ((.tup [iV 42,iV 0]),[]):=Aa (bbK 11 1792) ((fun c0 c1=>[c0,c0,c0,false,c1,c1,c1,ilt 16 (ofNat n),p0 (B9 (onP 0 p0 (Cq n f x y i) (onP 2 p2 (BR n f x y i2) L))) (CZ n f 0 0 0 (Fc n f )),p2 (BG (onP 0 p0 (Cq n f x y i) (onP 2 p2 (BR n f x y i2) L))) (C8 n f x y 0 (DB n f x y i)),ilt x 2]) (Am (ieq 1 1)) (ilt (ofNat n) 2)) (by kernel_rfl) (by simp only [hp0,hp2] <;> simp only [*] <;> rfl)
theorem AcH (h0:ilt (ofNat n) 2 = false) (h1:ilt 16 (ofNat n) = false) (h2:ilt x 2 = false) (h3:ilt y 2 = true) (hp0:p0 (B9 (onP 0 p0 (Cq n f x y i) (onP 2 p2 (BR n f x y i2) L))) (CZ n f 0 0 0 (Fc n f )) = true) (hp2:p2 (BG (onP 0 p0 (Cq n f x y i) (onP 2 p2 (BR n f x y i2) L))) (C8 n f x y 0 (DB n f x y i)) = true):(As (Aj tab ⟨Ao Dd,onP 0 p0 (Cq n f x y i) (onP 2 p2 (BR n f x y i2) L),Gl⟩ Try.f19 [iV 1,A2 n f] [])).sem = some ((.tup [iV 43,iV 0]),[]):=Aa (bbK 12 2816) ((fun c0 c1=>[c0,c0,c0,false,c1,c1,c1,ilt 16 (ofNat n),p0 (B9 (onP 0 p0 (Cq n f x y i) (onP 2 p2 (BR n f x y i2) L))) (CZ n f 0 0 0 (Fc n f )),p2 (BG (onP 0 p0 (Cq n f x y i) (onP 2 p2 (BR n f x y i2) L))) (C8 n f x y 0 (DB n f x y i)),ilt x 2,ilt y 2]) (Am (ieq 1 1)) (ilt (ofNat n) 2)) (by kernel_rfl) (by simp only [hp0,hp2] <;> simp only [*] <;> rfl)
end
abbrev pO (n:Nat) (f:Nat->E6):Nat->Int:=fun k=>A0 (fun k=>Ay (f k)) n k
abbrev pM (n:Nat) (f:Nat->E6):Nat->Int:=fun k=>A0 (fun k=>Au (f k)) n k
noncomputable abbrev Ld (L:LT) (p0:PT) (p2:PT) (p4:PT) (n:Nat) (f:Nat->E6) (x:Int) (y:Int) (i:Nat) (i2:Nat) (i4:Nat):LT:=onP 0 p0 (Cq n f x y i) (onP 2 p2 (BR n f x y i2) (onP 4 p4 (NZ n f (pO n f) (pM n f) i4) L))
theorem AcG (L:LT) (p0:PT) (p2:PT) (p4:PT) (n:Nat) (f:Nat->E6) (x y:Int) (i:Nat) (i2 i4:Nat) (h0:ilt (ofNat n) 2 = false) (h1:ilt 16 (ofNat n) = false) (h2:ilt x 2 = false) (h3:ilt y 2 = false) (h4:AL n = true) (hp0:p0 (B9 (Ld L p0 p2 p4 n f x y i i2 i4)) (CZ n f 0 0 0 (Fc n f )) = true) (hp2:p2 (BG (Ld L p0 p2 p4 n f x y i i2 i4)) (C8 n f x y 0 (DB n f x y i)) = true) (hp4:p4 (CI (Ld L p0 p2 p4 n f x y i i2 i4)) (DY n f (pO n f) (pM n f) 0 (Jd n f x y i i2)) = true):(As (Aj tab ⟨Ao Dd,onP 0 p0 (Cq n f x y i) (onP 2 p2 (BR n f x y i2) (onP 4 p4 (NZ n f (pO n f) (pM n f) i4) L)),Gl⟩ Try.f19 [iV 1,A2 n f] [])).sem = some ((.tup [iV 44,nV i4]),[]):=Aa (bbK 17 127744) ((fun c0 c1 c2 c3=>[c0,c0,c0,false,c1,c1,c1,ilt 16 (ofNat n),p0 (B9 (Ld L p0 p2 p4 n f x y i i2 i4)) (CZ n f 0 0 0 (Fc n f )),p2 (BG (Ld L p0 p2 p4 n f x y i i2 i4)) (C8 n f x y 0 (DB n f x y i)),ilt x 2,ilt y 2,c2,c3,c2,c3,p4 (CI (Ld L p0 p2 p4 n f x y i i2 i4)) (DY n f (pO n f) (pM n f) 0 (Jd n f x y i i2))]) (Am (ieq 1 1)) (ilt (ofNat n) 2) (Ai n (fun _=>true)) (AL n)) (by kernel_rfl) (by simp only [hp0,hp2,hp4] <;> simp only [*,Ar] <;> rfl)
section
variable (L:LT) (p0:PT) (p2:PT) (p4:PT) (p6:PT) (n:Nat) (f:Nat->E6) (x y:Int) (i:Nat) (i2 i4 i6:Nat)
include L p0 p2 p4 p6 n f x y i i2 i4 i6
noncomputable abbrev Ih (L:LT) (p0:PT) (p2:PT) (p4:PT) (p6:PT) (n:Nat) (f:Nat->E6) (x:Int) (y:Int) (i:Nat) (i2:Nat) (i4:Nat) (i6:Nat):LT:=onP 0 p0 (Cq n f x y i) (onP 2 p2 (BR n f x y i2) (onP 4 p4 (Iz n f (pO n f) (pM n f) i4) (onP 6 p6 (NW n f (pO n f) (pM n f) i6) L)))
theorem AcO (h0:ilt (ofNat n) 2 = false) (h1:ilt 16 (ofNat n) = false) (h2:ilt x 2 = false) (h3:ilt y 2 = false) (h4:AL n = true) (hp0:p0 (B9 (Ih L p0 p2 p4 p6 n f x y i i2 i4 i6)) (CZ n f 0 0 0 (Fc n f )) = true) (hp2:p2 (BG (Ih L p0 p2 p4 p6 n f x y i i2 i4 i6)) (C8 n f x y 0 (DB n f x y i)) = true) (hp4:p4 (CI (Ih L p0 p2 p4 p6 n f x y i i2 i4 i6)) (DY n f (pO n f) (pM n f) 0 (Jd n f x y i i2)) = true) (hp6:p6 (DU (Ih L p0 p2 p4 p6 n f x y i i2 i4 i6)) (FN n f (pO n f) (pM n f) 0 (Mv n f x y i i2 (pO n f) (pM n f) i4)) = true):(As (Aj tab ⟨Ao Dd,onP 0 p0 (Cq n f x y i) (onP 2 p2 (BR n f x y i2) (onP 4 p4 (Iz n f (pO n f) (pM n f) i4) (onP 6 p6 (NW n f (pO n f) (pM n f) i6) L))),Gl⟩ Try.f19 [iV 1,A2 n f] [])).sem = some ((.tup [iV 45,nV i6]),[]):=Aa (bbK 18 258816) ((fun c0 c1 c2 c3=>[c0,c0,c0,false,c1,c1,c1,ilt 16 (ofNat n),p0 (B9 (Ih L p0 p2 p4 p6 n f x y i i2 i4 i6)) (CZ n f 0 0 0 (Fc n f )),p2 (BG (Ih L p0 p2 p4 p6 n f x y i i2 i4 i6)) (C8 n f x y 0 (DB n f x y i)),ilt x 2,ilt y 2,c2,c3,c2,c3,p4 (CI (Ih L p0 p2 p4 p6 n f x y i i2 i4 i6)) (DY n f (pO n f) (pM n f) 0 (Jd n f x y i i2)),p6 (DU (Ih L p0 p2 p4 p6 n f x y i i2 i4 i6)) (FN n f (pO n f) (pM n f) 0 (Mv n f x y i i2 (pO n f) (pM n f) i4))]) (Am (ieq 1 1)) (ilt (ofNat n) 2) (Ai n (fun _=>true)) (AL n)) (by kernel_rfl) (by simp only [hp0,hp2,hp4,hp6] <;> simp only [*,Ar] <;> rfl)
noncomputable abbrev Ig (L:LT) (p0:PT) (p2:PT) (p4:PT) (p6:PT) (n:Nat) (f:Nat->E6) (x:Int) (y:Int) (i:Nat) (i2:Nat) (i4:Nat) (i6:Nat):LT:=onP 0 p0 (Cq n f x y i) (onP 2 p2 (BR n f x y i2) (onP 4 p4 (Iz n f (pO n f) (pM n f) i4) (onP 6 p6 (NV n f (pO n f) (pM n f) i6) L)))
theorem AcF (h0:ilt (ofNat n) 2 = false) (h1:ilt 16 (ofNat n) = false) (h2:ilt x 2 = false) (h3:ilt y 2 = false) (h4:AL n = true) (hp0:p0 (B9 (Ig L p0 p2 p4 p6 n f x y i i2 i4 i6)) (CZ n f 0 0 0 (Fc n f )) = true) (hp2:p2 (BG (Ig L p0 p2 p4 p6 n f x y i i2 i4 i6)) (C8 n f x y 0 (DB n f x y i)) = true) (hp4:p4 (CI (Ig L p0 p2 p4 p6 n f x y i i2 i4 i6)) (DY n f (pO n f) (pM n f) 0 (Jd n f x y i i2)) = true) (hp6:p6 (DU (Ig L p0 p2 p4 p6 n f x y i i2 i4 i6)) (FN n f (pO n f) (pM n f) 0 (Mv n f x y i i2 (pO n f) (pM n f) i4)) = true):(As (Aj tab ⟨Ao Dd,onP 0 p0 (Cq n f x y i) (onP 2 p2 (BR n f x y i2) (onP 4 p4 (Iz n f (pO n f) (pM n f) i4) (onP 6 p6 (NV n f (pO n f) (pM n f) i6) L))),Gl⟩ Try.f19 [iV 1,A2 n f] [])).sem = some ((.tup [iV 0,iV 0]),[]):=Aa (bbK 18 258816) ((fun c0 c1 c2 c3=>[c0,c0,c0,false,c1,c1,c1,ilt 16 (ofNat n),p0 (B9 (Ig L p0 p2 p4 p6 n f x y i i2 i4 i6)) (CZ n f 0 0 0 (Fc n f )),p2 (BG (Ig L p0 p2 p4 p6 n f x y i i2 i4 i6)) (C8 n f x y 0 (DB n f x y i)),ilt x 2,ilt y 2,c2,c3,c2,c3,p4 (CI (Ig L p0 p2 p4 p6 n f x y i i2 i4 i6)) (DY n f (pO n f) (pM n f) 0 (Jd n f x y i i2)),p6 (DU (Ig L p0 p2 p4 p6 n f x y i i2 i4 i6)) (FN n f (pO n f) (pM n f) 0 (Mv n f x y i i2 (pO n f) (pM n f) i4))]) (Am (ieq 1 1)) (ilt (ofNat n) 2) (Ai n (fun _=>true)) (AL n)) (by kernel_rfl) (by simp only [hp0,hp2,hp4,hp6] <;> simp only [*,Ar] <;> rfl)
end
section
variable (L:LT) (n:Nat) (f:Nat->E6)
include L n f
theorem AcJ (h0:ilt (ofNat n) 2 = true):(As (Aj tab ⟨Ao Dd,L,Gl⟩ Try.f19 [iV 1,A2 n f] [])).sem = some ((.tup [iV 40,iV 0]),[]):=Aa (bbK 8 240) ((fun c0 c1=>[c0,c0,c0,false,c1,c1,c1,true]) (Am (ieq 1 1)) (ilt (ofNat n) 2)) (by kernel_rfl) (by simp only [h0] <;> rfl)
theorem AcI (h0:ilt (ofNat n) 2 = false) (h1:ilt 16 (ofNat n) = true):(As (Aj tab ⟨Ao Dd,L,Gl⟩ Try.f19 [iV 1,A2 n f] [])).sem = some ((.tup [iV 40,iV 0]),[]):=Aa (bbK 8 128) ((fun c0 c1=>[c0,c0,c0,false,c1,c1,c1,ilt 16 (ofNat n)]) (Am (ieq 1 1)) (ilt (ofNat n) 2)) (by kernel_rfl) (by simp only [h0,h1] <;> rfl)
end
theorem Na (L:LT) (n:Nat) (f:Nat->E6) (hn:n <= 4611686018427387904):∀ (d i:Nat) (j:Nat->V) (q:Nat),n = i+d->d < q ->
    (A7 (B9 L) (Kn n f) q (CZ n f (ofNat (Ak (fun k=>Ay (f k)) i)) (ofNat (Ak (fun k=>Au (f k)) i)) i j)).sem = some (match Bf (C7 1 f) d i with
      | none=>Cq n f (ofNat (Ak (fun k=>Ay (f k)) n)) (ofNat (Ak (fun k=>Au (f k)) n)) n
      | some t=>match ieq (D6 1 (f t)) 0 with
        | false=>QB n f (ofNat (Ak (fun k=>Ay (f k)) t)) (ofNat (Ak (fun k=>Au (f k)) t)) t
        | true=>QA n f (ofNat (Ak (fun k=>Ay (f k)) t)) (ofNat (Ak (fun k=>Au (f k)) t)) t)
  | 0,i,j,q+1,h,_=>by
    have:n = i:=by omega
    subst this
    exact Ac (Afu L n f (ofNat (Ak (fun k=>Ay (f k)) n)) (ofNat (Ak (fun k=>Au (f k)) n)) n j (AA (Nat.le_refl _)))
  | d+1,i,j,q+1,h,h2=>by
    have hl:i < n:=by omega
    have ho:=Be (fun k=>Ay (f k)) i
    have hm:=Be (fun k=>Au (f k)) i
    cases c1:ieq (AT (f i)) 0 with
    | false =>
      have c1':ieq (D6 1 (f i)) 0 = false:=c1
      rw [BX (show C7 1 f i = true by rw [C7,c1']; rfl)]
      simp only [c1']
      exact Ac (Aft L n f (ofNat (Ak (fun k=>Ay (f k)) i)) (ofNat (Ak (fun k=>Au (f k)) i)) i j (ofNat_lt hl) (Ax hl) c1)
    | true =>
      have c1':ieq (D6 1 (f i)) 0 = true:=c1
      cases c2:DH 1 (f i) with
      | false =>
        rw [BX (show C7 1 f i = true by rw [C7,c1',c2]; rfl)]
        simp only [c1']
        exact Ac (Afs L n f (ofNat (Ak (fun k=>Ay (f k)) i)) (ofNat (Ak (fun k=>Au (f k)) i)) i j (ofNat_lt hl) (Ax hl) c1 c2)
      | true =>
        cases c3:Ay (f i) with
        | false =>
          cases c4:Au (f i) with
          | false =>
            rw [Bz (show C7 1 f i = false by rw [C7,show ieq (D6 1 (f i)) 0 = true from c1,c2]; rfl),Ac (Aa5 L n f (ofNat (Ak (fun k=>Ay (f k)) i)) (ofNat (Ak (fun k=>Au (f k)) i)) i j (ofNat_lt hl) (Ax hl) c1 c2 c3 c4),Av,Aq hl hn,<- Bv (p:=(fun k=>Ay (f k))) c3,<- Bv (p:=(fun k=>Au (f k))) c4]
            exact Na L n f hn d (i+1) (fun _=>.und) q (by omega) (by omega)
          | true =>
            rw [Bz (show C7 1 f i = false by rw [C7,show ieq (D6 1 (f i)) 0 = true from c1,c2]; rfl),Ac (Aa6 L n f (ofNat (Ak (fun k=>Ay (f k)) i)) (ofNat (Ak (fun k=>Au (f k)) i)) i j (ofNat_lt hl) (Ax hl) c1 c2 c3 c4),Av,Aq hl hn,Aq (show Ak (fun k=>Au (f k)) i < n by omega) hn,<- Bv (p:=(fun k=>Ay (f k))) c3,<- Bg (p:=(fun k=>Au (f k))) c4]
            exact Na L n f hn d (i+1) (fun _=>.und) q (by omega) (by omega)
        | true =>
          cases c4:Au (f i) with
          | false =>
            rw [Bz (show C7 1 f i = false by rw [C7,show ieq (D6 1 (f i)) 0 = true from c1,c2]; rfl),Ac (Aa3 L n f (ofNat (Ak (fun k=>Ay (f k)) i)) (ofNat (Ak (fun k=>Au (f k)) i)) i j (ofNat_lt hl) (Ax hl) c1 c2 c3 c4),Av,Aq hl hn,Aq (show Ak (fun k=>Ay (f k)) i < n by omega) hn,<- Bg (p:=(fun k=>Ay (f k))) c3,<- Bv (p:=(fun k=>Au (f k))) c4]
            exact Na L n f hn d (i+1) (fun _=>.und) q (by omega) (by omega)
          | true =>
            rw [Bz (show C7 1 f i = false by rw [C7,show ieq (D6 1 (f i)) 0 = true from c1,c2]; rfl),Ac (Aa4 L n f (ofNat (Ak (fun k=>Ay (f k)) i)) (ofNat (Ak (fun k=>Au (f k)) i)) i j (ofNat_lt hl) (Ax hl) c1 c2 c3 c4),Av,Aq hl hn,Aq (show Ak (fun k=>Ay (f k)) i < n by omega) hn,Aq (show Ak (fun k=>Au (f k)) i < n by omega) hn,<- Bg (p:=(fun k=>Ay (f k))) c3,<- Bg (p:=(fun k=>Au (f k))) c4]
            exact Na L n f hn d (i+1) (fun _=>.und) q (by omega) (by omega)
theorem UB (L:LT) (n:Nat) (f:Nat->E6) (x y:Int) (hn:n <= 4611686018427387904):∀ (d i:Nat) (j:Nat->V) (q:Nat),n = i+d->d < q ->
    (A7 (BG L) (Kr n f) q (C8 n f x y i j)).sem = some (match Bf (Fq n f) d i with
      | none=>BR n f x y 0
      | some t=>GS n f x y t)
  | 0,i,j,q+1,h,_=>by
    have:n = i:=by omega
    subst this
    exact Ac (Afn L n f x y n j (AA (Nat.le_refl _)))
  | d+1,i,j,q+1,h,h2=>by
    have hl:i < n:=by omega
    have e1:=Nt hl hn
    have hb:Ag (ile 0 (Ae (wr .i64 (Af (ofNat i) 1)) (ofNat n))) (ilt (Ae (wr .i64 (Af (ofNat i) 1)) (ofNat n)) (ofNat n)) = true:=by
      rw [e1]; exact Ax (Nat.mod_lt _ (by omega))
    have e2:toN (ofNat ((i+1) % n)) = (i+1) % n:=rfl
    cases c1:ieq (f i).dst (f ((i+1) % n)).src with
    | false =>
      rw [BX (show Fq n f i = true by rw [Fq,c1]; rfl)]
      exact Ac (Afm L n f x y i j (ofNat_lt hl) (Ax hl) (Wu hl) hb (by rw [e1,e2]; exact c1))
    | true =>
      rw [Bz (show Fq n f i = false by rw [Fq,c1]; rfl),Ac (Afl L n f x y i j (ofNat_lt hl) (Ax hl) (Wu hl) hb (by rw [e1,e2]; exact c1)),Av,Aq hl hn]
      exact UB L n f x y hn d (i+1) (fun _=>.und) q (by omega) (by omega)
theorem PS (L:LT) (n:Nat) (f:Nat->E6) (u v:Nat->Int) (hn:n <= 4611686018427387904):∀ (d i:Nat) (j:Nat->V) (q:Nat),n = i+d->d < q ->
    (A7 (CI L) (IY n f) q (DY n f u v i j)).sem = some (match Bf (AK n v (fun i=>isW (f i)) 2) d i with
      | none=>Iz n f u v 0
      | some t=>NZ n f u v t)
  | 0,i,j,q+1,h,_=>by
    have:n = i:=by omega
    subst this
    exact Ac (AeA L n f u v n j (AA (Nat.le_refl _)))
  | d+1,i,j,q+1,h,h2=>by
    have hl:i < n:=by omega
    have hs:Ab n = true:=decide_eq_true hn
    cases c1:ieq (f i).src 2 with
    | false =>
      rw [Bz (show AK n v (fun i=>isW (f i)) 2 i = false by rw [AK,isW,c1]; rfl),Ac (AeD L n f u v i j (ofNat_lt hl) (Ax hl) c1),Av,Aq hl hn]
      exact PS L n f u v hn d (i+1) (fun _=>.und) q (by omega) (by omega)
    | true =>
      cases c2:ilt 2 (Eh n v (fun i=>(bor (Am true) (isW (f i)))) (v i)) with
      | false =>
        rw [Bz (show AK n v (fun i=>isW (f i)) 2 i = false by rw [AK,isW,c1]; exact c2),Ac (AeC L n f u v i j (ofNat_lt hl) (Ax hl) c1 (show nlt i n = true by simpa [nlt] using hl) (Nat.beq_refl n) hs c2),Av,Aq hl hn]
        exact PS L n f u v hn d (i+1) (fun _=>.und) q (by omega) (by omega)
      | true =>
        rw [BX (show AK n v (fun i=>isW (f i)) 2 i = true by rw [AK,isW,c1]; exact c2)]
        exact Ac (AeB L n f u v i j (ofNat_lt hl) (Ax hl) c1 (show nlt i n = true by simpa [nlt] using hl) (Nat.beq_refl n) hs c2)
theorem U9 (L:LT) (n:Nat) (f:Nat->E6) (u v:Nat->Int) (hn:n <= 4611686018427387904):∀ (d i:Nat) (j:Nat->V) (q:Nat),n = i+d->d < q ->
    (A7 (DU L) (Kp n f) q (FN n f u v i j)).sem = some (match Bf (AK n u (fun _=>true) 12) d i with
      | none=>NV n f u v 0
      | some t=>NW n f u v t)
  | 0,i,j,q+1,h,_=>by
    have:n = i:=by omega
    subst this
    exact Ac (Aer L n f u v n j (AA (Nat.le_refl _)))
  | d+1,i,j,q+1,h,h2=>by
    have hl:i < n:=by omega
    have hs:Ab n = true:=decide_eq_true hn
    cases c2:ilt 12 (Eh n u (fun i=>(bor (Am false) (isW (f i)))) (u i)) with
    | false =>
      rw [Bz (show AK n u (fun _=>true) 12 i = false from c2),Ac (Aet L n f u v i j (ofNat_lt hl) (Ax hl) (show nlt i n = true by simpa [nlt] using hl) (Nat.beq_refl n) hs c2),Av,Aq hl hn]
      exact U9 L n f u v hn d (i+1) (fun _=>.und) q (by omega) (by omega)
    | true =>
      rw [BX (show AK n u (fun _=>true) 12 i = true from c2)]
      exact Ac (Aes L n f u v i j (ofNat_lt hl) (Ax hl) (show nlt i n = true by simpa [nlt] using hl) (Nat.beq_refl n) hs c2)
def Qh (n:Nat) (f:Nat->E6):List (Nat × Lp):=[(0,Kn n f),(2,Kr n f),(4,IY n f),(6,Kp n f)]
theorem ZM (n:Nat) (f:Nat->E6) (hF:AL n = true) :
    (As (Aj tab (AI Gl Dd (Qh n f)) Try.f19 [iV 1,A2 n f] [])).sem = some (.tup [iV (JN 1 n f).1,iV (JN 1 n f).2],[]):=by
  have hL:=AD (Qh n f)
  have hn:=CP (EY hF)
  unfold JN
  cases hA:ilt (ofNat n) 2 with
  | true=>exact AcJ _ n f hA
  | false =>
    cases hB:ilt 16 (ofNat n) with
    | true=>exact AcI _ n f hA hB
    | false =>
      have h0:=fun L j=>Na L n f hn n 0 j (n+1) (by omega) (by omega)
      have h2:=fun L j=>UB L n f (ofNat (Ak (fun k=>Ay (f k)) n)) (ofNat (Ak (fun k=>Au (f k)) n)) hn n 0 j (n+1) (by omega) (by omega)
      have h4:=fun L j=>PS L n f (pO n f) (pM n f) hn n 0 j (n+1) (by omega) (by omega)
      have h6:=fun L j=>U9 L n f (pO n f) (pM n f) hn n 0 j (n+1) (by omega) (by omega)
      show _ = some (V.tup [iV (match D7 1 n f,ieq (D7 1 n f).1 0 with | r,false=>r | _,true=>Fl n f).1,iV (match D7 1 n f,ieq (D7 1 n f).1 0 with | r,false=>r | _,true=>Fl n f).2],[])
      unfold D7
      cases c1:Bf (C7 1 f) n 0 with
      | some t =>
        rw [c1] at h0
        cases c2:ieq (D6 1 (f t)) 0 with
        | false =>
          simp only [c2] at h0 ⊢
          exact A3 (Aw hL hL) _ (AcN _ _ n f (ofNat (Ak (fun k=>Ay (f k)) t)) (ofNat (Ak (fun k=>Au (f k)) t)) t hA hB (An (h0 _ _)))
        | true =>
          simp only [c2] at h0 ⊢
          exact A3 (Aw hL hL) _ (AcM _ _ n f (ofNat (Ak (fun k=>Ay (f k)) t)) (ofNat (Ak (fun k=>Au (f k)) t)) t hA hB (An (h0 _ _)))
      | none =>
        rw [c1] at h0
        cases c2:Bf (Fq n f) n 0 with
        | some t =>
          rw [c2] at h2
          exact A3 (Aw (Aw hL hL) hL) _ (AcL _ _ _ n f (ofNat (Ak (fun k=>Ay (f k)) n)) (ofNat (Ak (fun k=>Au (f k)) n)) n t hA hB (An (h0 _ _)) (An (h2 _ _)))
        | none =>
          rw [c2] at h2
          show _ = some (V.tup [iV (Fl n f).1,iV (Fl n f).2],[])
          unfold Fl
          cases c3:ilt (Ew n f) 2 with
          | true=>exact A3 (Aw (Aw hL hL) hL) _ (AcK _ _ _ n f (ofNat (Ak (fun k=>Ay (f k)) n)) (ofNat (Ak (fun k=>Au (f k)) n)) n 0 hA hB c3 (An (h0 _ _)) (An (h2 _ _)))
          | false =>
            cases c4:ilt (FD n f) 2 with
            | true=>exact A3 (Aw (Aw hL hL) hL) _ (AcH _ _ _ n f (ofNat (Ak (fun k=>Ay (f k)) n)) (ofNat (Ak (fun k=>Au (f k)) n)) n 0 hA hB c3 c4 (An (h0 _ _)) (An (h2 _ _)))
            | false =>
              show _ = some (V.tup [iV (JM n f).1,iV (JM n f).2],[])
              unfold JM crR
              cases c5:Bf (AK n (A0 (fun k=>Au (f k)) n) (fun i=>isW (f i)) 2) n 0 with
              | some t =>
                rw [show (Bf (AK n (pM n f) (fun i=>isW (f i)) 2) n 0) = some t from c5] at h4
                exact A3 (Aw (Aw (Aw hL hL) hL) hL) _ (AcG _ _ _ _ n f (ofNat (Ak (fun k=>Ay (f k)) n)) (ofNat (Ak (fun k=>Au (f k)) n)) n 0 t hA hB c3 c4 hF (An (h0 _ _)) (An (h2 _ _)) (An (h4 _ _)))
              | none =>
                rw [show (Bf (AK n (pM n f) (fun i=>isW (f i)) 2) n 0) = none from c5] at h4
                cases c6:Bf (AK n (A0 (fun k=>Ay (f k)) n) (fun _=>true) 12) n 0 with
                | some t =>
                  rw [show (Bf (AK n (pO n f) (fun _=>true) 12) n 0) = some t from c6] at h6
                  exact A3 (Aw (Aw (Aw (Aw hL hL) hL) hL) hL) _ (AcO _ _ _ _ _ n f (ofNat (Ak (fun k=>Ay (f k)) n)) (ofNat (Ak (fun k=>Au (f k)) n)) n 0 0 t hA hB c3 c4 hF (An (h0 _ _)) (An (h2 _ _)) (An (h4 _ _)) (An (h6 _ _)))
                | none =>
                  rw [show (Bf (AK n (pO n f) (fun _=>true) 12) n 0) = none from c6] at h6
                  exact A3 (Aw (Aw (Aw (Aw hL hL) hL) hL) hL) _ (AcF _ _ _ _ _ n f (ofNat (Ak (fun k=>Ay (f k)) n)) (ofNat (Ak (fun k=>Au (f k)) n)) n 0 0 0 hA hB c3 c4 hF (An (h0 _ _)) (An (h2 _ _)) (An (h4 _ _)) (An (h6 _ _)))
def Ko (n:Nat) (_:Nat->E6):Lp:=⟨(bmK 133 0 [0,1,4,5,6,7,8,9]),0,bmK 133 0 [1,4,5,6,7,8],0,n+1⟩
def Da (n:Nat) (f:Nat->E6) (x y:Int) (i:Nat) (j:Nat->V):St:=⟨(jsV 133 0 j [(0,iV 2),(1,.sl 6 n (fun i=>eV (f i))),(4,iV 0),(5,iV 0),(6,nV n),(7,iV x),(8,iV y),(9,nV i)]),[]⟩
def Cr (n:Nat) (f:Nat->E6) (x y:Int) (_:Nat):Ex × St:=(.ex 0,⟨(jsV 133 0 (fun _=>.und) [(1,.sl 6 n (fun i=>eV (f i))),(4,iV 0),(5,iV 0),(6,nV n),(7,iV x),(8,iV y)]),[]⟩)
def QD (n:Nat) (f:Nat->E6) (x y:Int) (i:Nat):Ex × St:=(.rt,⟨(jsV 133 0 (fun _=>.und) [(1,.sl 6 n (fun i=>eV (f i))),(4,iV 30),(5,nV i),(6,nV n),(7,iV x),(8,iV y)]),[]⟩)
def QC (n:Nat) (f:Nat->E6) (x y:Int) (i:Nat):Ex × St:=(.rt,⟨(jsV 133 0 (fun _=>.und) [(1,.sl 6 n (fun i=>eV (f i))),(4,iV 5),(5,nV i),(6,nV n),(7,iV x),(8,iV y)]),[]⟩)
noncomputable def BA (L:LT):St->T (Ex × St):=fun st=>AE tab ⟨Ao Dd,L,Gl⟩ (Az Try.f19 0) 0 st
section
variable (L:LT) (n:Nat) (f:Nat->E6) (x y:Int) (i:Nat)  (j:Nat->V)
include L n f x y i j
theorem Afx (h0:ilt (ofNat i) (ofNat n) = false):Al (BA L) (Ko n f) (Da n f x y i j) = some ((.ex 0),⟨(jsV 133 0 (fun _=>.und) [(1,(.sl 6 n (fun i=>eV (f i)))),(4,(iV 0)),(5,(iV 0)),(6,(nV n)),(7,(iV x)),(8,(iV y))]),[]⟩):=Aa [false] [ilt (ofNat i) (ofNat n)] (by kernel_rfl) (by simp only [h0] <;> rfl)
theorem Afw (h0:ilt (ofNat i) (ofNat n) = true) (h1:Ag (ile 0 (ofNat i)) (ilt (ofNat i) (ofNat n)) = true) (h2:ieq (AT (f i)) 0 = false):Al (BA L) (Ko n f) (Da n f x y i j) = some (.rt,⟨(jsV 133 0 (fun _=>.und) [(1,(.sl 6 n (fun i=>eV (f i)))),(4,(iV 30)),(5,(nV i)),(6,(nV n)),(7,(iV x)),(8,(iV y))]),[]⟩):=Aa [true,true,true] [ilt (ofNat i) (ofNat n),Ag (ile 0 (ofNat i)) (ilt (ofNat i) (ofNat n)),Am (ieq (AT (f i)) 0)] (by kernel_rfl) (by simp only [h1] <;> simp only [h0,h2] <;> rfl)
theorem Afv (h0:ilt (ofNat i) (ofNat n) = true) (h1:Ag (ile 0 (ofNat i)) (ilt (ofNat i) (ofNat n)) = true) (h2:ieq (AT (f i)) 0 = true) (h3:DH 2 (f i) = false):Al (BA L) (Ko n f) (Da n f x y i j) = some (.rt,⟨(jsV 133 0 (fun _=>.und) [(1,(.sl 6 n (fun i=>eV (f i)))),(4,(iV 5)),(5,(nV i)),(6,(nV n)),(7,(iV x)),(8,(iV y))]),[]⟩):=Aa [true,true,false,true,true] ((fun c0=>[ilt (ofNat i) (ofNat n),c0,Am (ieq (AT (f i)) 0),c0,Am (DH 2 (f i))]) (Ag (ile 0 (ofNat i)) (ilt (ofNat i) (ofNat n)))) (by kernel_rfl) (by simp only [h1] <;> simp only [*] <;> rfl)
theorem Aa9 (h0:ilt (ofNat i) (ofNat n) = true) (h1:Ag (ile 0 (ofNat i)) (ilt (ofNat i) (ofNat n)) = true) (h2:ieq (AT (f i)) 0 = true) (h3:DH 2 (f i) = true) (h4:Ay (f i) = false) (h5:Au (f i) = false):Al (BA L) (Ko n f) (Da n f x y i j) = some (.nm,⟨(jsV 133 0 (fun _=>.und) [(0,(iV 2)),(1,(.sl 6 n (fun i=>eV (f i)))),(4,(iV 0)),(5,(iV 0)),(6,(nV n)),(7,(iV x)),(8,(iV y)),(9,(iV (wr .i64 (Af (ofNat i) 1))))]),[]⟩):=Aa (bbK 9 171) ((fun c0=>[ilt (ofNat i) (ofNat n),c0,Am (ieq (AT (f i)) 0),c0,Am (DH 2 (f i)),c0,Ay (f i),c0,Au (f i)]) (Ag (ile 0 (ofNat i)) (ilt (ofNat i) (ofNat n)))) (by kernel_rfl) (by simp only [h1] <;> simp only [*] <;> rfl)
theorem AaA (h0:ilt (ofNat i) (ofNat n) = true) (h1:Ag (ile 0 (ofNat i)) (ilt (ofNat i) (ofNat n)) = true) (h2:ieq (AT (f i)) 0 = true) (h3:DH 2 (f i) = true) (h4:Ay (f i) = false) (h5:Au (f i) = true):Al (BA L) (Ko n f) (Da n f x y i j) = some (.nm,⟨(jsV 133 0 (fun _=>.und) [(0,(iV 2)),(1,(.sl 6 n (fun i=>eV (f i)))),(4,(iV 0)),(5,(iV 0)),(6,(nV n)),(7,(iV x)),(8,(iV (wr .i64 (Af y 1)))),(9,(iV (wr .i64 (Af (ofNat i) 1))))]),[]⟩):=Aa (bbK 9 427) ((fun c0=>[ilt (ofNat i) (ofNat n),c0,Am (ieq (AT (f i)) 0),c0,Am (DH 2 (f i)),c0,Ay (f i),c0,Au (f i)]) (Ag (ile 0 (ofNat i)) (ilt (ofNat i) (ofNat n)))) (by kernel_rfl) (by simp only [h1] <;> simp only [*] <;> rfl)
theorem Aa7 (h0:ilt (ofNat i) (ofNat n) = true) (h1:Ag (ile 0 (ofNat i)) (ilt (ofNat i) (ofNat n)) = true) (h2:ieq (AT (f i)) 0 = true) (h3:DH 2 (f i) = true) (h4:Ay (f i) = true) (h5:Au (f i) = false):Al (BA L) (Ko n f) (Da n f x y i j) = some (.nm,⟨(jsV 133 0 (fun _=>.und) [(0,(iV 2)),(1,(.sl 6 n (fun i=>eV (f i)))),(4,(iV 0)),(5,(iV 0)),(6,(nV n)),(7,(iV (wr .i64 (Af x 1)))),(8,(iV y)),(9,(iV (wr .i64 (Af (ofNat i) 1))))]),[]⟩):=Aa (bbK 9 235) ((fun c0=>[ilt (ofNat i) (ofNat n),c0,Am (ieq (AT (f i)) 0),c0,Am (DH 2 (f i)),c0,Ay (f i),c0,Au (f i)]) (Ag (ile 0 (ofNat i)) (ilt (ofNat i) (ofNat n)))) (by kernel_rfl) (by simp only [h1] <;> simp only [*] <;> rfl)
theorem Aa8 (h0:ilt (ofNat i) (ofNat n) = true) (h1:Ag (ile 0 (ofNat i)) (ilt (ofNat i) (ofNat n)) = true) (h2:ieq (AT (f i)) 0 = true) (h3:DH 2 (f i) = true) (h4:Ay (f i) = true) (h5:Au (f i) = true):Al (BA L) (Ko n f) (Da n f x y i j) = some (.nm,⟨(jsV 133 0 (fun _=>.und) [(0,(iV 2)),(1,(.sl 6 n (fun i=>eV (f i)))),(4,(iV 0)),(5,(iV 0)),(6,(nV n)),(7,(iV (wr .i64 (Af x 1)))),(8,(iV (wr .i64 (Af y 1)))),(9,(iV (wr .i64 (Af (ofNat i) 1))))]),[]⟩):=Aa (bbK 9 491) ((fun c0=>[ilt (ofNat i) (ofNat n),c0,Am (ieq (AT (f i)) 0),c0,Am (DH 2 (f i)),c0,Ay (f i),c0,Au (f i)]) (Ag (ile 0 (ofNat i)) (ilt (ofNat i) (ofNat n)))) (by kernel_rfl) (by simp only [h1] <;> simp only [*] <;> rfl)
end
def Fd (n:Nat) (f:Nat->E6) :Nat->V:=lkV A8 [(17,(iV 2)),(18,(bV (Am (ieq 2 1)))),(19,(bV (Am (ieq 2 1)))),(20,(iV 2)),(21,(bV (Am (ieq 2 2)))),(22,(bV (Am (ieq 2 2)))),(23,(.sl 6 n (fun i=>eV (f i)))),(24,(nV n)),(25,(nV n)),(26,(bV (ilt (ofNat n) 2))),(27,(bV (ilt (ofNat n) 2))),(28,(nV n)),(29,(bV (ilt 16 (ofNat n)))),(30,(bV (ilt 16 (ofNat n))))]
def Ks (n:Nat) (_:Nat->E6):Lp:=⟨(bmK 133 0 [1,4,5,6,7,8,12]),0,bmK 133 0 [1,4,5,6,7,8],0,n+1⟩
def C9 (n:Nat) (f:Nat->E6) (x y:Int) (i:Nat) (j:Nat->V):St:=⟨(jsV 133 0 j [(1,.sl 6 n (fun i=>eV (f i))),(4,iV 0),(5,iV 0),(6,nV n),(7,iV x),(8,iV y),(12,nV i)]),[]⟩
def BS (n:Nat) (f:Nat->E6) (x y:Int) (_:Nat):Ex × St:=(.ex 2,⟨(jsV 133 0 (fun _=>.und) [(1,.sl 6 n (fun i=>eV (f i))),(4,iV 0),(5,iV 0),(6,nV n),(7,iV x),(8,iV y)]),[]⟩)
def GT (n:Nat) (f:Nat->E6) (x y:Int) (i:Nat):Ex × St:=(.rt,⟨(jsV 133 0 (fun _=>.und) [(1,.sl 6 n (fun i=>eV (f i))),(4,iV 41),(5,nV i),(6,nV n),(7,iV x),(8,iV y)]),[]⟩)
noncomputable def BH (L:LT):St->T (Ex × St):=fun st=>AE tab ⟨Ao Dd,L,Gl⟩ (Az Try.f19 2) 2 st
section
variable (L:LT) (n:Nat) (f:Nat->E6) (x y:Int) (i:Nat)  (j:Nat->V)
include L n f x y i j
theorem Afq (h0:ilt (ofNat i) (ofNat n) = false):Al (BH L) (Ks n f) (C9 n f x y i j) = some ((.ex 2),⟨(jsV 133 0 (fun _=>.und) [(1,(.sl 6 n (fun i=>eV (f i)))),(4,(iV 0)),(5,(iV 0)),(6,(nV n)),(7,(iV x)),(8,(iV y))]),[]⟩):=Aa [false] [ilt (ofNat i) (ofNat n)] (by kernel_rfl) (by simp only [h0] <;> rfl)
theorem Afp (h0:ilt (ofNat i) (ofNat n) = true) (h1:Ag (ile 0 (ofNat i)) (ilt (ofNat i) (ofNat n)) = true) (h2:ieq (ofNat n) 0 = false) (h3:Ag (ile 0 (Ae (wr .i64 (Af (ofNat i) 1)) (ofNat n))) (ilt (Ae (wr .i64 (Af (ofNat i) 1)) (ofNat n)) (ofNat n)) = true) (h4:ieq ((f i)).dst ((f (toN (Ae (wr .i64 (Af (ofNat i) 1)) (ofNat n))))).src = false):Al (BH L) (Ks n f) (C9 n f x y i j) = some (.rt,⟨(jsV 133 0 (fun _=>.und) [(1,(.sl 6 n (fun i=>eV (f i)))),(4,(iV 41)),(5,(nV i)),(6,(nV n)),(7,(iV x)),(8,(iV y))]),[]⟩):=Aa [true,true,false,true,true] [ilt (ofNat i) (ofNat n),Ag (ile 0 (ofNat i)) (ilt (ofNat i) (ofNat n)),ieq (ofNat n) 0,Ag (ile 0 (Ae (wr .i64 (Af (ofNat i) 1)) (ofNat n))) (ilt (Ae (wr .i64 (Af (ofNat i) 1)) (ofNat n)) (ofNat n)),Am (ieq ((f i)).dst ((f (toN (Ae (wr .i64 (Af (ofNat i) 1)) (ofNat n))))).src)] (by kernel_rfl) (by simp only [h1,h3] <;> simp only [*] <;> rfl)
theorem Afo (h0:ilt (ofNat i) (ofNat n) = true) (h1:Ag (ile 0 (ofNat i)) (ilt (ofNat i) (ofNat n)) = true) (h2:ieq (ofNat n) 0 = false) (h3:Ag (ile 0 (Ae (wr .i64 (Af (ofNat i) 1)) (ofNat n))) (ilt (Ae (wr .i64 (Af (ofNat i) 1)) (ofNat n)) (ofNat n)) = true) (h4:ieq ((f i)).dst ((f (toN (Ae (wr .i64 (Af (ofNat i) 1)) (ofNat n))))).src = true):Al (BH L) (Ks n f) (C9 n f x y i j) = some (.nm,⟨(jsV 133 0 (fun _=>.und) [(1,(.sl 6 n (fun i=>eV (f i)))),(4,(iV 0)),(5,(iV 0)),(6,(nV n)),(7,(iV x)),(8,(iV y)),(12,(iV (wr .i64 (Af (ofNat i) 1))))]),[]⟩):=Aa [true,true,false,true,false] [ilt (ofNat i) (ofNat n),Ag (ile 0 (ofNat i)) (ilt (ofNat i) (ofNat n)),ieq (ofNat n) 0,Ag (ile 0 (Ae (wr .i64 (Af (ofNat i) 1)) (ofNat n))) (ilt (Ae (wr .i64 (Af (ofNat i) 1)) (ofNat n)) (ofNat n)),Am (ieq ((f i)).dst ((f (toN (Ae (wr .i64 (Af (ofNat i) 1)) (ofNat n))))).src)] (by kernel_rfl) (by simp only [h1,h3] <;> simp only [*] <;> rfl)
end
def DC (_:Nat) (_:Nat->E6) (_ _:Int) (_:Nat):Nat->V:=lkV A8 [(0,.und),(2,.und),(3,.und),(9,.und),(10,.und),(11,.und),(13,.und),(14,.und),(15,.und),(16,.und),(17,.und),(18,.und),(19,.und),(20,.und),(21,.und),(22,.und),(23,.und),(24,.und),(25,.und),(26,.und),(27,.und),(28,.und),(29,.und),(30,.und),(31,.und),(32,.und),(33,.und),(34,.und),(35,.und),(36,.und),(37,.und),(38,.und),(39,.und),(40,.und),(41,.und),(42,.und),(43,.und),(44,.und),(45,.und),(46,.und),(47,.und),(48,.und),(49,.und),(50,.und),(51,.und),(52,.und),(53,.und),(54,.und),(55,.und),(56,.und),(57,.und),(58,.und),(59,.und),(60,.und),(61,.und),(62,.und),(63,.und),(64,.und),(65,.und),(66,.und),(67,.und),(68,.und),(69,.und),(70,.und),(71,.und),(72,.und),(73,.und),(74,.und),(75,.und),(76,.und),(77,.und),(78,.und),(79,.und),(80,.und),(81,.und),(82,.und),(83,.und),(84,.und),(85,.und),(86,.und),(87,.und),(88,.und),(89,.und),(90,.und),(91,.und),(92,.und),(93,.und),(94,.und),(95,.und),(96,.und),(97,.und),(98,.und),(99,.und),(100,.und),(101,.und),(102,.und),(103,.und),(104,.und),(105,.und),(106,.und),(107,.und),(108,.und),(109,.und),(110,.und),(111,.und),(112,.und),(113,.und),(114,.und),(115,.und),(116,.und),(117,.und),(118,.und),(119,.und),(120,.und),(121,.und),(122,.und),(123,.und),(124,.und),(125,.und),(126,.und),(127,.und),(128,.und),(129,.und),(130,.und),(131,.und),(132,.und)]
def IZ (n:Nat) (_:Nat->E6):Lp:=⟨(bmK 133 0 [1,4,5,6,13,14,15]),2,bmK 133 0 [1,4,5,6,13],2,n+1⟩
def DZ (n:Nat) (f:Nat->E6) (u v:Nat->Int) (i:Nat) (j:Nat->V):St:=⟨(jsV 133 0 j [(1,.sl 6 n (fun i=>eV (f i))),(4,iV 0),(5,iV 0),(6,nV n),(13,.ref 0),(14,.ref 1),(15,nV i)]),[.row 3 1 n (fun k=>iV (u k)),.row 3 1 n (fun k=>iV (v k))]⟩
def I0 (n:Nat) (f:Nat->E6) (u v:Nat->Int) (_:Nat):Ex × St:=(.ex 4,⟨(jsV 133 0 (fun _=>.und) [(1,.sl 6 n (fun i=>eV (f i))),(4,iV 0),(5,iV 0),(6,nV n),(13,.ref 0)]),[.row 3 1 n (fun k=>iV (u k)),.row 3 1 n (fun k=>iV (v k))]⟩)
def Oa (n:Nat) (f:Nat->E6) (u v:Nat->Int) (i:Nat):Ex × St:=(.rt,⟨(jsV 133 0 (fun _=>.und) [(1,.sl 6 n (fun i=>eV (f i))),(4,iV 44),(5,nV i),(6,nV n),(13,.ref 0)]),[.row 3 1 n (fun k=>iV (u k)),.row 3 1 n (fun k=>iV (v k))]⟩)
noncomputable def CJ (L:LT):St->T (Ex × St):=fun st=>AE tab ⟨Ao Dd,L,Gl⟩ (Az Try.f19 4) 4 st
section
variable (L:LT) (n:Nat) (f:Nat->E6) (u v:Nat->Int) (i:Nat)  (j:Nat->V)
include L n f u v i j
theorem AeE (h0:ilt (ofNat i) (ofNat n) = false):Al (CJ L) (IZ n f) (DZ n f u v i j) = some ((.ex 4),⟨(jsV 133 0 (fun _=>.und) [(1,(.sl 6 n (fun i=>eV (f i)))),(4,(iV 0)),(5,(iV 0)),(6,(nV n)),(13,(.ref 0))]),[.row 3 1 n (fun k=>iV (u k)),.row 3 1 n (fun k=>iV (v k))]⟩):=Aa [false] [ilt (ofNat i) (ofNat n)] (by kernel_rfl) (by simp only [h0] <;> rfl)
theorem AeH (h0:ilt (ofNat i) (ofNat n) = true) (h1:Ag (ile 0 (ofNat i)) (ilt (ofNat i) (ofNat n)) = true) (h2:ieq ((f i)).src 2 = false):Al (CJ L) (IZ n f) (DZ n f u v i j) = some (.nm,⟨(jsV 133 0 (fun _=>.und) [(1,(.sl 6 n (fun i=>eV (f i)))),(4,(iV 0)),(5,(iV 0)),(6,(nV n)),(13,(.ref 0)),(14,(.ref 1)),(15,(iV (wr .i64 (Af (ofNat i) 1))))]),[.row 3 1 n (fun k=>iV (u k)),.row 3 1 n (fun k=>iV (v k))]⟩):=Aa (bbK 12 3) ((fun c0=>[ilt (ofNat i) (ofNat n),Ag (ile 0 (ofNat i)) (ilt (ofNat i) (ofNat n)),c0,c0,c0,c0,c0,c0,c0,c0,c0,false]) (ieq ((f i)).src 2)) (by kernel_rfl) (by simp only [h1] <;> simp only [h0,h2] <;> rfl)
theorem AeG (h0:ilt (ofNat i) (ofNat n) = true) (h1:Ag (ile 0 (ofNat i)) (ilt (ofNat i) (ofNat n)) = true) (h2:ieq ((f i)).src 2 = true) (h15:nlt i n = true) (h3:AV n n = true) (h4:Ab n = true) (h5:ilt 2 (Eh n v (fun i=>bor (Am true) (isW (f i))) (v i)) = false):Al (CJ L) (IZ n f) (DZ n f u v i j) = some (.nm,⟨(jsV 133 0 (fun _=>.und) [(1,(.sl 6 n (fun i=>eV (f i)))),(4,(iV 0)),(5,(iV 0)),(6,(nV n)),(13,(.ref 0)),(14,(.ref 1)),(15,(iV (wr .i64 (Af (ofNat i) 1))))]),[.row 3 1 n (fun k=>iV (u k)),.row 3 1 n (fun k=>iV (v k))]⟩):=Aa (bbK 18 131071) ((fun c0 c1 c2=>[ilt (ofNat i) (ofNat n),c0,c1,c1,c1,c1,c1,c0,c1,nlt i n,c1,c2,c2,AV n n,Ab n,c1,c1,ilt 2 (Eh n v (fun i=>bor (Am true) (isW (f i))) (v i))]) (Ag (ile 0 (ofNat i)) (ilt (ofNat i) (ofNat n))) (ieq ((f i)).src 2) (Ai n (fun _=>true))) (by kernel_rfl) (by simp only [h1] <;> simp only [*,Ar] <;> rfl)
theorem AeF (h0:ilt (ofNat i) (ofNat n) = true) (h1:Ag (ile 0 (ofNat i)) (ilt (ofNat i) (ofNat n)) = true) (h2:ieq ((f i)).src 2 = true) (h15:nlt i n = true) (h3:AV n n = true) (h4:Ab n = true) (h5:ilt 2 (Eh n v (fun i=>bor (Am true) (isW (f i))) (v i)) = true):Al (CJ L) (IZ n f) (DZ n f u v i j) = some (.rt,⟨(jsV 133 0 (fun _=>.und) [(1,(.sl 6 n (fun i=>eV (f i)))),(4,(iV 44)),(5,(nV i)),(6,(nV n)),(13,(.ref 0))]),[.row 3 1 n (fun k=>iV (u k)),.row 3 1 n (fun k=>iV (v k))]⟩):=Aa (bbK 18 262143) ((fun c0 c1 c2=>[ilt (ofNat i) (ofNat n),c0,c1,c1,c1,c1,c1,c0,c1,nlt i n,c1,c2,c2,AV n n,Ab n,c1,c1,ilt 2 (Eh n v (fun i=>bor (Am true) (isW (f i))) (v i))]) (Ag (ile 0 (ofNat i)) (ilt (ofNat i) (ofNat n))) (ieq ((f i)).src 2) (Ai n (fun _=>true))) (by kernel_rfl) (by simp only [h1] <;> simp only [*,Ar] <;> rfl)
end
def Je (n:Nat) (f:Nat->E6) (x y:Int) (_ _:Nat):Nat->V:=lkV A8 [(0,.und),(2,.und),(3,.und),(7,(iV x)),(8,(iV y)),(9,.und),(10,.und),(11,.und),(12,.und),(16,.und),(17,.und),(18,.und),(19,.und),(20,.und),(21,.und),(22,.und),(23,.und),(24,.und),(25,.und),(26,.und),(27,.und),(28,.und),(29,.und),(30,.und),(31,.und),(32,.und),(33,.und),(34,.und),(35,.und),(36,.und),(37,.und),(38,.und),(39,.und),(40,.und),(41,.und),(42,.und),(43,.und),(44,.und),(45,.und),(46,.und),(47,.und),(48,.und),(49,.und),(50,.und),(51,.und),(52,.und),(53,.und),(54,.und),(55,.und),(56,.und),(57,.und),(58,.und),(59,.und),(60,.und),(61,.und),(62,.und),(63,.und),(64,.und),(65,.und),(66,.und),(67,.und),(68,.und),(69,.und),(70,.und),(71,.und),(72,.und),(73,.und),(74,.und),(75,.und),(76,.und),(77,.und),(78,.und),(79,.und),(80,.und),(81,.und),(82,.und),(83,.und),(84,.und),(85,.und),(86,.und),(87,.und),(88,.und),(89,(iV x)),(90,(bV (ilt x 2))),(91,(iV y)),(92,(bV (ilt y 2))),(93,(.sl 6 n (fun i=>eV (f i)))),(94,(.ref 0)),(95,(.sl 6 n (fun i=>eV (f i)))),(96,(.ref 1)),(97,.und),(98,.und),(99,.und),(100,.und),(101,.und),(102,.und),(103,.und),(104,.und),(105,.und),(106,.und),(107,.und),(108,.und),(109,.und),(110,.und),(111,.und),(112,.und),(113,.und),(114,.und),(115,.und),(116,.und),(117,.und),(118,.und),(119,.und),(120,.und),(121,.und),(122,.und),(123,.und),(124,.und),(125,.und),(126,.und),(127,.und),(128,.und),(129,.und),(130,.und),(131,.und),(132,.und)]
def Kq (n:Nat) (_:Nat->E6):Lp:=⟨(bmK 133 0 [1,4,5,6,13,16]),2,bmK 133 0 [4,5],0,n+1⟩
def FO (n:Nat) (f:Nat->E6) (u v:Nat->Int) (i:Nat) (j:Nat->V):St:=⟨(jsV 133 0 j [(1,.sl 6 n (fun i=>eV (f i))),(4,iV 0),(5,iV 0),(6,nV n),(13,.ref 0),(16,nV i)]),[.row 3 1 n (fun k=>iV (u k)),.row 3 1 n (fun k=>iV (v k))]⟩
def NX (_:Nat) (_:Nat->E6) (_ _:Nat->Int) (_:Nat):Ex × St:=(.ex 6,⟨(jsV 133 0 (fun _=>.und) [(4,iV 0),(5,iV 0)]),[]⟩)
def NY (_:Nat) (_:Nat->E6) (_ _:Nat->Int) (i:Nat):Ex × St:=(.rt,⟨(jsV 133 0 (fun _=>.und) [(4,iV 45),(5,nV i)]),[]⟩)
noncomputable def DV (L:LT):St->T (Ex × St):=fun st=>AE tab ⟨Ao Dd,L,Gl⟩ (Az Try.f19 6) 6 st
section
variable (L:LT) (n:Nat) (f:Nat->E6) (u v:Nat->Int) (i:Nat)  (j:Nat->V)
include L n f u v i j
theorem Aeu (h0:ilt (ofNat i) (ofNat n) = false):Al (DV L) (Kq n f) (FO n f u v i j) = some ((.ex 6),⟨(jsV 133 0 (fun _=>.und) [(4,(iV 0)),(5,(iV 0))]),[]⟩):=Aa [false] [ilt (ofNat i) (ofNat n)] (by kernel_rfl) (by simp only [h0] <;> rfl)
theorem Aew (h0:ilt (ofNat i) (ofNat n) = true) (h1:Ag (ile 0 (ofNat i)) (ilt (ofNat i) (ofNat n)) = true) (h14:nlt i n = true) (h2:AV n n = true) (h3:Ab n = true) (h4:ilt 12 (Eh n u (fun i=>bor (Am false) (isW (f i))) (u i)) = false):Al (DV L) (Kq n f) (FO n f u v i j) = some (.nm,⟨(jsV 133 0 (fun _=>.und) [(1,(.sl 6 n (fun i=>eV (f i)))),(4,(iV 0)),(5,(iV 0)),(6,(nV n)),(13,(.ref 0)),(16,(iV (wr .i64 (Af (ofNat i) 1))))]),[.row 3 1 n (fun k=>iV (u k)),.row 3 1 n (fun k=>iV (v k))]⟩):=Aa (bbK 8 127) [ilt (ofNat i) (ofNat n),Ag (ile 0 (ofNat i)) (ilt (ofNat i) (ofNat n)),nlt i n,Ai n (fun _=>true),Ai n (fun _=>true),AV n n,Ab n,ilt 12 (Eh n u (fun i=>bor (Am false) (isW (f i))) (u i))] (by kernel_rfl) (by simp only [h1] <;> simp only [*,Ar] <;> rfl)
theorem Aev (h0:ilt (ofNat i) (ofNat n) = true) (h1:Ag (ile 0 (ofNat i)) (ilt (ofNat i) (ofNat n)) = true) (h14:nlt i n = true) (h2:AV n n = true) (h3:Ab n = true) (h4:ilt 12 (Eh n u (fun i=>bor (Am false) (isW (f i))) (u i)) = true):Al (DV L) (Kq n f) (FO n f u v i j) = some (.rt,⟨(jsV 133 0 (fun _=>.und) [(4,(iV 45)),(5,(nV i))]),[]⟩):=Aa (bbK 8 255) [ilt (ofNat i) (ofNat n),Ag (ile 0 (ofNat i)) (ilt (ofNat i) (ofNat n)),nlt i n,Ai n (fun _=>true),Ai n (fun _=>true),AV n n,Ab n,ilt 12 (Eh n u (fun i=>bor (Am false) (isW (f i))) (u i))] (by kernel_rfl) (by simp only [h1] <;> simp only [*,Ar] <;> rfl)
end
def Mw (_:Nat) (_:Nat->E6) (_ _:Int) (_ _:Nat) (_ _:Nat->Int) (_:Nat):Nat->V:=lkV A8 [(0,.und),(2,.und),(3,.und),(7,.und),(8,.und),(9,.und),(10,.und),(11,.und),(12,.und),(14,.und),(15,.und),(17,.und),(18,.und),(19,.und),(20,.und),(21,.und),(22,.und),(23,.und),(24,.und),(25,.und),(26,.und),(27,.und),(28,.und),(29,.und),(30,.und),(31,.und),(32,.und),(33,.und),(34,.und),(35,.und),(36,.und),(37,.und),(38,.und),(39,.und),(40,.und),(41,.und),(42,.und),(43,.und),(44,.und),(45,.und),(46,.und),(47,.und),(48,.und),(49,.und),(50,.und),(51,.und),(52,.und),(53,.und),(54,.und),(55,.und),(56,.und),(57,.und),(58,.und),(59,.und),(60,.und),(61,.und),(62,.und),(63,.und),(64,.und),(65,.und),(66,.und),(67,.und),(68,.und),(69,.und),(70,.und),(71,.und),(72,.und),(73,.und),(74,.und),(75,.und),(76,.und),(77,.und),(78,.und),(79,.und),(80,.und),(81,.und),(82,.und),(83,.und),(84,.und),(85,.und),(86,.und),(87,.und),(88,.und),(89,.und),(90,.und),(91,.und),(92,.und),(93,.und),(94,.und),(95,.und),(96,.und),(97,.und),(98,.und),(99,.und),(100,.und),(101,.und),(102,.und),(103,.und),(104,.und),(105,.und),(106,.und),(107,.und),(108,.und),(109,.und),(110,.und),(111,.und),(112,.und),(113,.und),(114,.und),(115,.und),(116,.und),(117,.und),(118,.und),(119,.und),(120,.und),(121,.und),(122,.und),(123,.und),(124,.und),(125,.und),(126,.und),(127,.und),(128,.und),(129,.und),(130,.und),(131,.und),(132,.und)]
section
variable (L:LT) (p0:PT) (n:Nat) (f:Nat->E6) (x y:Int) (i:Nat)
include L p0 n f x y i
theorem AcX (h0:ilt (ofNat n) 2 = false) (h1:ilt 16 (ofNat n) = false) (hp0:p0 (BA (onP 0 p0 (QD n f x y i) L)) (Da n f 0 0 0 (Fd n f )) = true):(As (Aj tab ⟨Ao Dd,onP 0 p0 (QD n f x y i) L,Gl⟩ Try.f19 [iV 2,A2 n f] [])).sem = some ((.tup [iV 30,nV i]),[]):=Aa (bbK 9 263) ((fun c0 c1=>[c0,c0,c0,Am (ieq 2 2),c1,c1,c1,ilt 16 (ofNat n),p0 (BA (onP 0 p0 (QD n f x y i) L)) (Da n f 0 0 0 (Fd n f ))]) (Am (ieq 2 1)) (ilt (ofNat n) 2)) (by kernel_rfl) (by simp only [hp0] <;> simp only [h0,h1] <;> rfl)
theorem AcW (h0:ilt (ofNat n) 2 = false) (h1:ilt 16 (ofNat n) = false) (hp0:p0 (BA (onP 0 p0 (QC n f x y i) L)) (Da n f 0 0 0 (Fd n f )) = true):(As (Aj tab ⟨Ao Dd,onP 0 p0 (QC n f x y i) L,Gl⟩ Try.f19 [iV 2,A2 n f] [])).sem = some ((.tup [iV 5,nV i]),[]):=Aa (bbK 9 263) ((fun c0 c1=>[c0,c0,c0,Am (ieq 2 2),c1,c1,c1,ilt 16 (ofNat n),p0 (BA (onP 0 p0 (QC n f x y i) L)) (Da n f 0 0 0 (Fd n f ))]) (Am (ieq 2 1)) (ilt (ofNat n) 2)) (by kernel_rfl) (by simp only [hp0] <;> simp only [h0,h1] <;> rfl)
end
section
variable (L:LT) (p0:PT) (p2:PT) (n:Nat) (f:Nat->E6) (x y:Int) (i:Nat) (i2:Nat)
include L p0 p2 n f x y i i2
theorem AcV (h0:ilt (ofNat n) 2 = false) (h1:ilt 16 (ofNat n) = false) (hp0:p0 (BA (onP 0 p0 (Cr n f x y i) (onP 2 p2 (GT n f x y i2) L))) (Da n f 0 0 0 (Fd n f )) = true) (hp2:p2 (BH (onP 0 p0 (Cr n f x y i) (onP 2 p2 (GT n f x y i2) L))) (C9 n f x y 0 (DC n f x y i)) = true):(As (Aj tab ⟨Ao Dd,onP 0 p0 (Cr n f x y i) (onP 2 p2 (GT n f x y i2) L),Gl⟩ Try.f19 [iV 2,A2 n f] [])).sem = some ((.tup [iV 41,nV i2]),[]):=Aa (bbK 10 775) ((fun c0 c1=>[c0,c0,c0,Am (ieq 2 2),c1,c1,c1,ilt 16 (ofNat n),p0 (BA (onP 0 p0 (Cr n f x y i) (onP 2 p2 (GT n f x y i2) L))) (Da n f 0 0 0 (Fd n f )),p2 (BH (onP 0 p0 (Cr n f x y i) (onP 2 p2 (GT n f x y i2) L))) (C9 n f x y 0 (DC n f x y i))]) (Am (ieq 2 1)) (ilt (ofNat n) 2)) (by kernel_rfl) (by simp only [hp0,hp2] <;> simp only [h0,h1] <;> rfl)
theorem AcU (h0:ilt (ofNat n) 2 = false) (h1:ilt 16 (ofNat n) = false) (h2:ilt x 2 = true) (hp0:p0 (BA (onP 0 p0 (Cr n f x y i) (onP 2 p2 (BS n f x y i2) L))) (Da n f 0 0 0 (Fd n f )) = true) (hp2:p2 (BH (onP 0 p0 (Cr n f x y i) (onP 2 p2 (BS n f x y i2) L))) (C9 n f x y 0 (DC n f x y i)) = true):(As (Aj tab ⟨Ao Dd,onP 0 p0 (Cr n f x y i) (onP 2 p2 (BS n f x y i2) L),Gl⟩ Try.f19 [iV 2,A2 n f] [])).sem = some ((.tup [iV 42,iV 0]),[]):=Aa (bbK 11 1799) ((fun c0 c1=>[c0,c0,c0,Am (ieq 2 2),c1,c1,c1,ilt 16 (ofNat n),p0 (BA (onP 0 p0 (Cr n f x y i) (onP 2 p2 (BS n f x y i2) L))) (Da n f 0 0 0 (Fd n f )),p2 (BH (onP 0 p0 (Cr n f x y i) (onP 2 p2 (BS n f x y i2) L))) (C9 n f x y 0 (DC n f x y i)),ilt x 2]) (Am (ieq 2 1)) (ilt (ofNat n) 2)) (by kernel_rfl) (by simp only [hp0,hp2] <;> simp only [*] <;> rfl)
theorem AcR (h0:ilt (ofNat n) 2 = false) (h1:ilt 16 (ofNat n) = false) (h2:ilt x 2 = false) (h3:ilt y 2 = true) (hp0:p0 (BA (onP 0 p0 (Cr n f x y i) (onP 2 p2 (BS n f x y i2) L))) (Da n f 0 0 0 (Fd n f )) = true) (hp2:p2 (BH (onP 0 p0 (Cr n f x y i) (onP 2 p2 (BS n f x y i2) L))) (C9 n f x y 0 (DC n f x y i)) = true):(As (Aj tab ⟨Ao Dd,onP 0 p0 (Cr n f x y i) (onP 2 p2 (BS n f x y i2) L),Gl⟩ Try.f19 [iV 2,A2 n f] [])).sem = some ((.tup [iV 43,iV 0]),[]):=Aa (bbK 12 2823) ((fun c0 c1=>[c0,c0,c0,Am (ieq 2 2),c1,c1,c1,ilt 16 (ofNat n),p0 (BA (onP 0 p0 (Cr n f x y i) (onP 2 p2 (BS n f x y i2) L))) (Da n f 0 0 0 (Fd n f )),p2 (BH (onP 0 p0 (Cr n f x y i) (onP 2 p2 (BS n f x y i2) L))) (C9 n f x y 0 (DC n f x y i)),ilt x 2,ilt y 2]) (Am (ieq 2 1)) (ilt (ofNat n) 2)) (by kernel_rfl) (by simp only [hp0,hp2] <;> simp only [*] <;> rfl)
end
noncomputable abbrev Lc (L:LT) (p0:PT) (p2:PT) (p4:PT) (n:Nat) (f:Nat->E6) (x:Int) (y:Int) (i:Nat) (i2:Nat) (i4:Nat):LT:=onP 0 p0 (Cr n f x y i) (onP 2 p2 (BS n f x y i2) (onP 4 p4 (Oa n f (pO n f) (pM n f) i4) L))
theorem AcQ (L:LT) (p0:PT) (p2:PT) (p4:PT) (n:Nat) (f:Nat->E6) (x y:Int) (i:Nat) (i2 i4:Nat) (h0:ilt (ofNat n) 2 = false) (h1:ilt 16 (ofNat n) = false) (h2:ilt x 2 = false) (h3:ilt y 2 = false) (h4:AL n = true) (hp0:p0 (BA (Lc L p0 p2 p4 n f x y i i2 i4)) (Da n f 0 0 0 (Fd n f )) = true) (hp2:p2 (BH (Lc L p0 p2 p4 n f x y i i2 i4)) (C9 n f x y 0 (DC n f x y i)) = true) (hp4:p4 (CJ (Lc L p0 p2 p4 n f x y i i2 i4)) (DZ n f (pO n f) (pM n f) 0 (Je n f x y i i2)) = true):(As (Aj tab ⟨Ao Dd,onP 0 p0 (Cr n f x y i) (onP 2 p2 (BS n f x y i2) (onP 4 p4 (Oa n f (pO n f) (pM n f) i4) L)),Gl⟩ Try.f19 [iV 2,A2 n f] [])).sem = some ((.tup [iV 44,nV i4]),[]):=Aa (bbK 17 127751) ((fun c0 c1 c2 c3=>[c0,c0,c0,Am (ieq 2 2),c1,c1,c1,ilt 16 (ofNat n),p0 (BA (Lc L p0 p2 p4 n f x y i i2 i4)) (Da n f 0 0 0 (Fd n f )),p2 (BH (Lc L p0 p2 p4 n f x y i i2 i4)) (C9 n f x y 0 (DC n f x y i)),ilt x 2,ilt y 2,c2,c3,c2,c3,p4 (CJ (Lc L p0 p2 p4 n f x y i i2 i4)) (DZ n f (pO n f) (pM n f) 0 (Je n f x y i i2))]) (Am (ieq 2 1)) (ilt (ofNat n) 2) (Ai n (fun _=>true)) (AL n)) (by kernel_rfl) (by simp only [hp0,hp2,hp4] <;> simp only [*,Ar] <;> rfl)
section
variable (L:LT) (p0:PT) (p2:PT) (p4:PT) (p6:PT) (n:Nat) (f:Nat->E6) (x y:Int) (i:Nat) (i2 i4 i6:Nat)
include L p0 p2 p4 p6 n f x y i i2 i4 i6
noncomputable abbrev If (L:LT) (p0:PT) (p2:PT) (p4:PT) (p6:PT) (n:Nat) (f:Nat->E6) (x:Int) (y:Int) (i:Nat) (i2:Nat) (i4:Nat) (i6:Nat):LT:=onP 0 p0 (Cr n f x y i) (onP 2 p2 (BS n f x y i2) (onP 4 p4 (I0 n f (pO n f) (pM n f) i4) (onP 6 p6 (NY n f (pO n f) (pM n f) i6) L)))
theorem AcY (h0:ilt (ofNat n) 2 = false) (h1:ilt 16 (ofNat n) = false) (h2:ilt x 2 = false) (h3:ilt y 2 = false) (h4:AL n = true) (hp0:p0 (BA (If L p0 p2 p4 p6 n f x y i i2 i4 i6)) (Da n f 0 0 0 (Fd n f )) = true) (hp2:p2 (BH (If L p0 p2 p4 p6 n f x y i i2 i4 i6)) (C9 n f x y 0 (DC n f x y i)) = true) (hp4:p4 (CJ (If L p0 p2 p4 p6 n f x y i i2 i4 i6)) (DZ n f (pO n f) (pM n f) 0 (Je n f x y i i2)) = true) (hp6:p6 (DV (If L p0 p2 p4 p6 n f x y i i2 i4 i6)) (FO n f (pO n f) (pM n f) 0 (Mw n f x y i i2 (pO n f) (pM n f) i4)) = true):(As (Aj tab ⟨Ao Dd,onP 0 p0 (Cr n f x y i) (onP 2 p2 (BS n f x y i2) (onP 4 p4 (I0 n f (pO n f) (pM n f) i4) (onP 6 p6 (NY n f (pO n f) (pM n f) i6) L))),Gl⟩ Try.f19 [iV 2,A2 n f] [])).sem = some ((.tup [iV 45,nV i6]),[]):=Aa (bbK 18 258823) ((fun c0 c1 c2 c3=>[c0,c0,c0,Am (ieq 2 2),c1,c1,c1,ilt 16 (ofNat n),p0 (BA (If L p0 p2 p4 p6 n f x y i i2 i4 i6)) (Da n f 0 0 0 (Fd n f )),p2 (BH (If L p0 p2 p4 p6 n f x y i i2 i4 i6)) (C9 n f x y 0 (DC n f x y i)),ilt x 2,ilt y 2,c2,c3,c2,c3,p4 (CJ (If L p0 p2 p4 p6 n f x y i i2 i4 i6)) (DZ n f (pO n f) (pM n f) 0 (Je n f x y i i2)),p6 (DV (If L p0 p2 p4 p6 n f x y i i2 i4 i6)) (FO n f (pO n f) (pM n f) 0 (Mw n f x y i i2 (pO n f) (pM n f) i4))]) (Am (ieq 2 1)) (ilt (ofNat n) 2) (Ai n (fun _=>true)) (AL n)) (by kernel_rfl) (by simp only [hp0,hp2,hp4,hp6] <;> simp only [*,Ar] <;> rfl)
noncomputable abbrev Ie (L:LT) (p0:PT) (p2:PT) (p4:PT) (p6:PT) (n:Nat) (f:Nat->E6) (x:Int) (y:Int) (i:Nat) (i2:Nat) (i4:Nat) (i6:Nat):LT:=onP 0 p0 (Cr n f x y i) (onP 2 p2 (BS n f x y i2) (onP 4 p4 (I0 n f (pO n f) (pM n f) i4) (onP 6 p6 (NX n f (pO n f) (pM n f) i6) L)))
theorem AcP (h0:ilt (ofNat n) 2 = false) (h1:ilt 16 (ofNat n) = false) (h2:ilt x 2 = false) (h3:ilt y 2 = false) (h4:AL n = true) (hp0:p0 (BA (Ie L p0 p2 p4 p6 n f x y i i2 i4 i6)) (Da n f 0 0 0 (Fd n f )) = true) (hp2:p2 (BH (Ie L p0 p2 p4 p6 n f x y i i2 i4 i6)) (C9 n f x y 0 (DC n f x y i)) = true) (hp4:p4 (CJ (Ie L p0 p2 p4 p6 n f x y i i2 i4 i6)) (DZ n f (pO n f) (pM n f) 0 (Je n f x y i i2)) = true) (hp6:p6 (DV (Ie L p0 p2 p4 p6 n f x y i i2 i4 i6)) (FO n f (pO n f) (pM n f) 0 (Mw n f x y i i2 (pO n f) (pM n f) i4)) = true):(As (Aj tab ⟨Ao Dd,onP 0 p0 (Cr n f x y i) (onP 2 p2 (BS n f x y i2) (onP 4 p4 (I0 n f (pO n f) (pM n f) i4) (onP 6 p6 (NX n f (pO n f) (pM n f) i6) L))),Gl⟩ Try.f19 [iV 2,A2 n f] [])).sem = some ((.tup [iV 0,iV 0]),[]):=Aa (bbK 18 258823) ((fun c0 c1 c2 c3=>[c0,c0,c0,Am (ieq 2 2),c1,c1,c1,ilt 16 (ofNat n),p0 (BA (Ie L p0 p2 p4 p6 n f x y i i2 i4 i6)) (Da n f 0 0 0 (Fd n f )),p2 (BH (Ie L p0 p2 p4 p6 n f x y i i2 i4 i6)) (C9 n f x y 0 (DC n f x y i)),ilt x 2,ilt y 2,c2,c3,c2,c3,p4 (CJ (Ie L p0 p2 p4 p6 n f x y i i2 i4 i6)) (DZ n f (pO n f) (pM n f) 0 (Je n f x y i i2)),p6 (DV (Ie L p0 p2 p4 p6 n f x y i i2 i4 i6)) (FO n f (pO n f) (pM n f) 0 (Mw n f x y i i2 (pO n f) (pM n f) i4))]) (Am (ieq 2 1)) (ilt (ofNat n) 2) (Ai n (fun _=>true)) (AL n)) (by kernel_rfl) (by simp only [hp0,hp2,hp4,hp6] <;> simp only [*,Ar] <;> rfl)
end
section
variable (L:LT) (n:Nat) (f:Nat->E6)
include L n f
theorem AcT (h0:ilt (ofNat n) 2 = true):(As (Aj tab ⟨Ao Dd,L,Gl⟩ Try.f19 [iV 2,A2 n f] [])).sem = some ((.tup [iV 40,iV 0]),[]):=Aa (bbK 8 247) ((fun c0 c1=>[c0,c0,c0,Am (ieq 2 2),c1,c1,c1,true]) (Am (ieq 2 1)) (ilt (ofNat n) 2)) (by kernel_rfl) (by simp only [h0] <;> rfl)
theorem AcS (h0:ilt (ofNat n) 2 = false) (h1:ilt 16 (ofNat n) = true):(As (Aj tab ⟨Ao Dd,L,Gl⟩ Try.f19 [iV 2,A2 n f] [])).sem = some ((.tup [iV 40,iV 0]),[]):=Aa (bbK 8 135) ((fun c0 c1=>[c0,c0,c0,Am (ieq 2 2),c1,c1,c1,ilt 16 (ofNat n)]) (Am (ieq 2 1)) (ilt (ofNat n) 2)) (by kernel_rfl) (by simp only [h0,h1] <;> rfl)
end
theorem Nb (L:LT) (n:Nat) (f:Nat->E6) (hn:n <= 4611686018427387904):∀ (d i:Nat) (j:Nat->V) (q:Nat),n = i+d->d < q ->
    (A7 (BA L) (Ko n f) q (Da n f (ofNat (Ak (fun k=>Ay (f k)) i)) (ofNat (Ak (fun k=>Au (f k)) i)) i j)).sem = some (match Bf (C7 2 f) d i with
      | none=>Cr n f (ofNat (Ak (fun k=>Ay (f k)) n)) (ofNat (Ak (fun k=>Au (f k)) n)) n
      | some t=>match ieq (D6 2 (f t)) 0 with
        | false=>QD n f (ofNat (Ak (fun k=>Ay (f k)) t)) (ofNat (Ak (fun k=>Au (f k)) t)) t
        | true=>QC n f (ofNat (Ak (fun k=>Ay (f k)) t)) (ofNat (Ak (fun k=>Au (f k)) t)) t)
  | 0,i,j,q+1,h,_=>by
    have:n = i:=by omega
    subst this
    exact Ac (Afx L n f (ofNat (Ak (fun k=>Ay (f k)) n)) (ofNat (Ak (fun k=>Au (f k)) n)) n j (AA (Nat.le_refl _)))
  | d+1,i,j,q+1,h,h2=>by
    have hl:i < n:=by omega
    have ho:=Be (fun k=>Ay (f k)) i
    have hm:=Be (fun k=>Au (f k)) i
    cases c1:ieq (AT (f i)) 0 with
    | false =>
      have c1':ieq (D6 2 (f i)) 0 = false:=c1
      rw [BX (show C7 2 f i = true by rw [C7,c1']; rfl)]
      simp only [c1']
      exact Ac (Afw L n f (ofNat (Ak (fun k=>Ay (f k)) i)) (ofNat (Ak (fun k=>Au (f k)) i)) i j (ofNat_lt hl) (Ax hl) c1)
    | true =>
      have c1':ieq (D6 2 (f i)) 0 = true:=c1
      cases c2:DH 2 (f i) with
      | false =>
        rw [BX (show C7 2 f i = true by rw [C7,c1',c2]; rfl)]
        simp only [c1']
        exact Ac (Afv L n f (ofNat (Ak (fun k=>Ay (f k)) i)) (ofNat (Ak (fun k=>Au (f k)) i)) i j (ofNat_lt hl) (Ax hl) c1 c2)
      | true =>
        cases c3:Ay (f i) with
        | false =>
          cases c4:Au (f i) with
          | false =>
            rw [Bz (show C7 2 f i = false by rw [C7,show ieq (D6 2 (f i)) 0 = true from c1,c2]; rfl),Ac (Aa9 L n f (ofNat (Ak (fun k=>Ay (f k)) i)) (ofNat (Ak (fun k=>Au (f k)) i)) i j (ofNat_lt hl) (Ax hl) c1 c2 c3 c4),Av,Aq hl hn,<- Bv (p:=(fun k=>Ay (f k))) c3,<- Bv (p:=(fun k=>Au (f k))) c4]
            exact Nb L n f hn d (i+1) (fun _=>.und) q (by omega) (by omega)
          | true =>
            rw [Bz (show C7 2 f i = false by rw [C7,show ieq (D6 2 (f i)) 0 = true from c1,c2]; rfl),Ac (AaA L n f (ofNat (Ak (fun k=>Ay (f k)) i)) (ofNat (Ak (fun k=>Au (f k)) i)) i j (ofNat_lt hl) (Ax hl) c1 c2 c3 c4),Av,Aq hl hn,Aq (show Ak (fun k=>Au (f k)) i < n by omega) hn,<- Bv (p:=(fun k=>Ay (f k))) c3,<- Bg (p:=(fun k=>Au (f k))) c4]
            exact Nb L n f hn d (i+1) (fun _=>.und) q (by omega) (by omega)
        | true =>
          cases c4:Au (f i) with
          | false =>
            rw [Bz (show C7 2 f i = false by rw [C7,show ieq (D6 2 (f i)) 0 = true from c1,c2]; rfl),Ac (Aa7 L n f (ofNat (Ak (fun k=>Ay (f k)) i)) (ofNat (Ak (fun k=>Au (f k)) i)) i j (ofNat_lt hl) (Ax hl) c1 c2 c3 c4),Av,Aq hl hn,Aq (show Ak (fun k=>Ay (f k)) i < n by omega) hn,<- Bg (p:=(fun k=>Ay (f k))) c3,<- Bv (p:=(fun k=>Au (f k))) c4]
            exact Nb L n f hn d (i+1) (fun _=>.und) q (by omega) (by omega)
          | true =>
            rw [Bz (show C7 2 f i = false by rw [C7,show ieq (D6 2 (f i)) 0 = true from c1,c2]; rfl),Ac (Aa8 L n f (ofNat (Ak (fun k=>Ay (f k)) i)) (ofNat (Ak (fun k=>Au (f k)) i)) i j (ofNat_lt hl) (Ax hl) c1 c2 c3 c4),Av,Aq hl hn,Aq (show Ak (fun k=>Ay (f k)) i < n by omega) hn,Aq (show Ak (fun k=>Au (f k)) i < n by omega) hn,<- Bg (p:=(fun k=>Ay (f k))) c3,<- Bg (p:=(fun k=>Au (f k))) c4]
            exact Nb L n f hn d (i+1) (fun _=>.und) q (by omega) (by omega)
theorem UC (L:LT) (n:Nat) (f:Nat->E6) (x y:Int) (hn:n <= 4611686018427387904):∀ (d i:Nat) (j:Nat->V) (q:Nat),n = i+d->d < q ->
    (A7 (BH L) (Ks n f) q (C9 n f x y i j)).sem = some (match Bf (Fq n f) d i with
      | none=>BS n f x y 0
      | some t=>GT n f x y t)
  | 0,i,j,q+1,h,_=>by
    have:n = i:=by omega
    subst this
    exact Ac (Afq L n f x y n j (AA (Nat.le_refl _)))
  | d+1,i,j,q+1,h,h2=>by
    have hl:i < n:=by omega
    have e1:=Nt hl hn
    have hb:Ag (ile 0 (Ae (wr .i64 (Af (ofNat i) 1)) (ofNat n))) (ilt (Ae (wr .i64 (Af (ofNat i) 1)) (ofNat n)) (ofNat n)) = true:=by
      rw [e1]; exact Ax (Nat.mod_lt _ (by omega))
    have e2:toN (ofNat ((i+1) % n)) = (i+1) % n:=rfl
    cases c1:ieq (f i).dst (f ((i+1) % n)).src with
    | false =>
      rw [BX (show Fq n f i = true by rw [Fq,c1]; rfl)]
      exact Ac (Afp L n f x y i j (ofNat_lt hl) (Ax hl) (Wu hl) hb (by rw [e1,e2]; exact c1))
    | true =>
      rw [Bz (show Fq n f i = false by rw [Fq,c1]; rfl),Ac (Afo L n f x y i j (ofNat_lt hl) (Ax hl) (Wu hl) hb (by rw [e1,e2]; exact c1)),Av,Aq hl hn]
      exact UC L n f x y hn d (i+1) (fun _=>.und) q (by omega) (by omega)
theorem PU (L:LT) (n:Nat) (f:Nat->E6) (u v:Nat->Int) (hn:n <= 4611686018427387904):∀ (d i:Nat) (j:Nat->V) (q:Nat),n = i+d->d < q ->
    (A7 (CJ L) (IZ n f) q (DZ n f u v i j)).sem = some (match Bf (AK n v (fun i=>isW (f i)) 2) d i with
      | none=>I0 n f u v 0
      | some t=>Oa n f u v t)
  | 0,i,j,q+1,h,_=>by
    have:n = i:=by omega
    subst this
    exact Ac (AeE L n f u v n j (AA (Nat.le_refl _)))
  | d+1,i,j,q+1,h,h2=>by
    have hl:i < n:=by omega
    have hs:Ab n = true:=decide_eq_true hn
    cases c1:ieq (f i).src 2 with
    | false =>
      rw [Bz (show AK n v (fun i=>isW (f i)) 2 i = false by rw [AK,isW,c1]; rfl),Ac (AeH L n f u v i j (ofNat_lt hl) (Ax hl) c1),Av,Aq hl hn]
      exact PU L n f u v hn d (i+1) (fun _=>.und) q (by omega) (by omega)
    | true =>
      cases c2:ilt 2 (Eh n v (fun i=>(bor (Am true) (isW (f i)))) (v i)) with
      | false =>
        rw [Bz (show AK n v (fun i=>isW (f i)) 2 i = false by rw [AK,isW,c1]; exact c2),Ac (AeG L n f u v i j (ofNat_lt hl) (Ax hl) c1 (show nlt i n = true by simpa [nlt] using hl) (Nat.beq_refl n) hs c2),Av,Aq hl hn]
        exact PU L n f u v hn d (i+1) (fun _=>.und) q (by omega) (by omega)
      | true =>
        rw [BX (show AK n v (fun i=>isW (f i)) 2 i = true by rw [AK,isW,c1]; exact c2)]
        exact Ac (AeF L n f u v i j (ofNat_lt hl) (Ax hl) c1 (show nlt i n = true by simpa [nlt] using hl) (Nat.beq_refl n) hs c2)
theorem UA (L:LT) (n:Nat) (f:Nat->E6) (u v:Nat->Int) (hn:n <= 4611686018427387904):∀ (d i:Nat) (j:Nat->V) (q:Nat),n = i+d->d < q ->
    (A7 (DV L) (Kq n f) q (FO n f u v i j)).sem = some (match Bf (AK n u (fun _=>true) 12) d i with
      | none=>NX n f u v 0
      | some t=>NY n f u v t)
  | 0,i,j,q+1,h,_=>by
    have:n = i:=by omega
    subst this
    exact Ac (Aeu L n f u v n j (AA (Nat.le_refl _)))
  | d+1,i,j,q+1,h,h2=>by
    have hl:i < n:=by omega
    have hs:Ab n = true:=decide_eq_true hn
    cases c2:ilt 12 (Eh n u (fun i=>(bor (Am false) (isW (f i)))) (u i)) with
    | false =>
      rw [Bz (show AK n u (fun _=>true) 12 i = false from c2),Ac (Aew L n f u v i j (ofNat_lt hl) (Ax hl) (show nlt i n = true by simpa [nlt] using hl) (Nat.beq_refl n) hs c2),Av,Aq hl hn]
      exact UA L n f u v hn d (i+1) (fun _=>.und) q (by omega) (by omega)
    | true =>
      rw [BX (show AK n u (fun _=>true) 12 i = true from c2)]
      exact Ac (Aev L n f u v i j (ofNat_lt hl) (Ax hl) (show nlt i n = true by simpa [nlt] using hl) (Nat.beq_refl n) hs c2)
def Qi (n:Nat) (f:Nat->E6):List (Nat × Lp):=[(0,Ko n f),(2,Ks n f),(4,IZ n f),(6,Kq n f)]
theorem ZN (n:Nat) (f:Nat->E6) (hF:AL n = true) :
    (As (Aj tab (AI Gl Dd (Qi n f)) Try.f19 [iV 2,A2 n f] [])).sem = some (.tup [iV (JN 2 n f).1,iV (JN 2 n f).2],[]):=by
  have hL:=AD (Qi n f)
  have hn:=CP (EY hF)
  unfold JN
  cases hA:ilt (ofNat n) 2 with
  | true=>exact AcT _ n f hA
  | false =>
    cases hB:ilt 16 (ofNat n) with
    | true=>exact AcS _ n f hA hB
    | false =>
      have h0:=fun L j=>Nb L n f hn n 0 j (n+1) (by omega) (by omega)
      have h2:=fun L j=>UC L n f (ofNat (Ak (fun k=>Ay (f k)) n)) (ofNat (Ak (fun k=>Au (f k)) n)) hn n 0 j (n+1) (by omega) (by omega)
      have h4:=fun L j=>PU L n f (pO n f) (pM n f) hn n 0 j (n+1) (by omega) (by omega)
      have h6:=fun L j=>UA L n f (pO n f) (pM n f) hn n 0 j (n+1) (by omega) (by omega)
      show _ = some (V.tup [iV (match D7 2 n f,ieq (D7 2 n f).1 0 with | r,false=>r | _,true=>Fl n f).1,iV (match D7 2 n f,ieq (D7 2 n f).1 0 with | r,false=>r | _,true=>Fl n f).2],[])
      unfold D7
      cases c1:Bf (C7 2 f) n 0 with
      | some t =>
        rw [c1] at h0
        cases c2:ieq (D6 2 (f t)) 0 with
        | false =>
          simp only [c2] at h0 ⊢
          exact A3 (Aw hL hL) _ (AcX _ _ n f (ofNat (Ak (fun k=>Ay (f k)) t)) (ofNat (Ak (fun k=>Au (f k)) t)) t hA hB (An (h0 _ _)))
        | true =>
          simp only [c2] at h0 ⊢
          exact A3 (Aw hL hL) _ (AcW _ _ n f (ofNat (Ak (fun k=>Ay (f k)) t)) (ofNat (Ak (fun k=>Au (f k)) t)) t hA hB (An (h0 _ _)))
      | none =>
        rw [c1] at h0
        cases c2:Bf (Fq n f) n 0 with
        | some t =>
          rw [c2] at h2
          exact A3 (Aw (Aw hL hL) hL) _ (AcV _ _ _ n f (ofNat (Ak (fun k=>Ay (f k)) n)) (ofNat (Ak (fun k=>Au (f k)) n)) n t hA hB (An (h0 _ _)) (An (h2 _ _)))
        | none =>
          rw [c2] at h2
          show _ = some (V.tup [iV (Fl n f).1,iV (Fl n f).2],[])
          unfold Fl
          cases c3:ilt (Ew n f) 2 with
          | true=>exact A3 (Aw (Aw hL hL) hL) _ (AcU _ _ _ n f (ofNat (Ak (fun k=>Ay (f k)) n)) (ofNat (Ak (fun k=>Au (f k)) n)) n 0 hA hB c3 (An (h0 _ _)) (An (h2 _ _)))
          | false =>
            cases c4:ilt (FD n f) 2 with
            | true=>exact A3 (Aw (Aw hL hL) hL) _ (AcR _ _ _ n f (ofNat (Ak (fun k=>Ay (f k)) n)) (ofNat (Ak (fun k=>Au (f k)) n)) n 0 hA hB c3 c4 (An (h0 _ _)) (An (h2 _ _)))
            | false =>
              show _ = some (V.tup [iV (JM n f).1,iV (JM n f).2],[])
              unfold JM crR
              cases c5:Bf (AK n (A0 (fun k=>Au (f k)) n) (fun i=>isW (f i)) 2) n 0 with
              | some t =>
                rw [show (Bf (AK n (pM n f) (fun i=>isW (f i)) 2) n 0) = some t from c5] at h4
                exact A3 (Aw (Aw (Aw hL hL) hL) hL) _ (AcQ _ _ _ _ n f (ofNat (Ak (fun k=>Ay (f k)) n)) (ofNat (Ak (fun k=>Au (f k)) n)) n 0 t hA hB c3 c4 hF (An (h0 _ _)) (An (h2 _ _)) (An (h4 _ _)))
              | none =>
                rw [show (Bf (AK n (pM n f) (fun i=>isW (f i)) 2) n 0) = none from c5] at h4
                cases c6:Bf (AK n (A0 (fun k=>Ay (f k)) n) (fun _=>true) 12) n 0 with
                | some t =>
                  rw [show (Bf (AK n (pO n f) (fun _=>true) 12) n 0) = some t from c6] at h6
                  exact A3 (Aw (Aw (Aw (Aw hL hL) hL) hL) hL) _ (AcY _ _ _ _ _ n f (ofNat (Ak (fun k=>Ay (f k)) n)) (ofNat (Ak (fun k=>Au (f k)) n)) n 0 0 t hA hB c3 c4 hF (An (h0 _ _)) (An (h2 _ _)) (An (h4 _ _)) (An (h6 _ _)))
                | none =>
                  rw [show (Bf (AK n (pO n f) (fun _=>true) 12) n 0) = none from c6] at h6
                  exact A3 (Aw (Aw (Aw (Aw hL hL) hL) hL) hL) _ (AcP _ _ _ _ _ n f (ofNat (Ak (fun k=>Ay (f k)) n)) (ofNat (Ak (fun k=>Au (f k)) n)) n 0 0 0 hA hB c3 c4 hF (An (h0 _ _)) (An (h2 _ _)) (An (h4 _ _)) (An (h6 _ _)))
theorem Ag5 (L:LT) (a:Int) (n:Nat) (f:Nat->E6) (h0:ieq a 1 = false) (h1:ieq a 2 = false):(As (Aj tab ⟨Ao Dd,L,Gl⟩ Try.f19 [iV a,A2 n f] [])).sem = some ((.tup [iV 1,iV 0]),[]):=Aa [true,true,true,true] [Am (ieq a 1),Am (ieq a 1),Am (ieq a 1),Am (ieq a 2)] (by kernel_rfl) (by simp only [h0,h1] <;> rfl)
theorem p49:AB Try.prog Gl 19 WH:=by
  refine A1 AQ AR Try.func19 (by kernel_rfl) (by kernel_rfl) fun vs v h' h=>?_
  unfold WH at h
  split at h
  · rename_i a u
    obtain ⟨n,f,ha,h1⟩:=Cj h
    obtain ⟨hn,hq⟩:=Ah h1
    have:=Ad hq
    simp only [Prod.mk.injEq] at this
    obtain ⟨rfl,rfl⟩:=this
    cases ca:ieq a 1 with
    | true =>
      have h9:=Gy ca
      subst h9
      have hx:=AP PE (Qh n f)
      exact ⟨_,AI Gl Dd (Qh n f),_,Um ha,rfl,hx.1,hx.2,ZM n f hn,A6.refl _⟩
    | false =>
      cases cb:ieq a 2 with
      | true =>
        have h9:=Gy cb
        subst h9
        have hx:=AP PE (Qi n f)
        exact ⟨_,AI Gl Dd (Qi n f),_,Um ha,rfl,hx.1,hx.2,ZN n f hn,A6.refl _⟩
      | false =>
        have hx:=AP PE []
        refine ⟨_,AI Gl Dd [],_,Um ha,rfl,hx.1,hx.2,?_,A6.refl _⟩
        unfold QX
        rw [ca,cb]
        exact Ag5 _ a n f ca cb
  · cases h
noncomputable def Fy:List (Nat × (List V->T (V × List Blk))):=(81,AfL) :: (82,Ug) :: (87,TA) :: (86,Uf) :: []
theorem PF:AC Try.prog Gl Fy:=.cons p86 <| .cons p87 <| .cons p92 <| .cons p91 .nil
def EK (a:Int) (n:Nat) (f:Nat->E6):Int:=(D7 a n f).1
def AiJ (a:Int) (n:Nat) (f:Nat->E6):Int:=(D7 a n f).2
def crI (n:Nat) (l:Nat->Int) (c:Nat->Bool) (q:Int):Int:=(crR n l c q).1
def crB (n:Nat) (l:Nat->Int) (c:Nat->Bool) (q:Int):Bool:=(crR n l c q).2
theorem D3 (p:Nat->Bool) (n:Nat) (hn:n <= 4611686018427387904):okP n (A0 p n) = true:=A4.2 fun i hi=>by
  unfold A0
  cases decide (i < n) with
  | false=>rfl
  | true =>
    cases decide (Ak p i = Ak p n) with
    | true=>rfl
    | false =>
      have:=Be p i
      exact Q0 (by omega)
section
variable (L:LT) (n:Nat) (f:Nat->E6)
include L n f
theorem Adc (h0:ilt (ofNat n) 2 = true):(As (Aj tab ⟨Ao Fy,L,Gl⟩ Try.f50 [iV 1,A2 n f] [])).sem = some ((.tup [iV 40,iV 0]),[]):=Aa (bbK 9 496) ((fun c0 c1=>[c0,c0,c0,false,c1,c1,c1,c1,true]) (Am (ieq 1 1)) (ilt (ofNat n) 2)) (by kernel_rfl) (by simp only [h0] <;> rfl)
theorem Adb (h0:ilt (ofNat n) 2 = false) (h1:ilt 16 (ofNat n) = true):(As (Aj tab ⟨Ao Fy,L,Gl⟩ Try.f50 [iV 1,A2 n f] [])).sem = some ((.tup [iV 40,iV 0]),[]):=Aa (bbK 9 256) ((fun c0 c1=>[c0,c0,c0,false,c1,c1,c1,c1,ilt 16 (ofNat n)]) (Am (ieq 1 1)) (ilt (ofNat n) 2)) (by kernel_rfl) (by simp only [h0,h1] <;> rfl)
theorem Adf (h0:ilt (ofNat n) 2 = false) (h1:ilt 16 (ofNat n) = false) (h2:AL n = true) (h3:ieq (EK 1 n f) 0 = false):(As (Aj tab ⟨Ao Fy,L,Gl⟩ Try.f50 [iV 1,A2 n f] [])).sem = some ((.tup [iV (EK 1 n f),iV (AiJ 1 n f)]),[]):=Aa (bbK 12 3584) ((fun c0 c1=>[c0,c0,c0,false,c1,c1,c1,c1,ilt 16 (ofNat n),Ai n (fun _=>true),AL n,Am (ieq (EK 1 n f) 0)]) (Am (ieq 1 1)) (ilt (ofNat n) 2)) (by kernel_rfl) (by simp only [*,Ar] <;> rfl)
theorem Add (h0:ilt (ofNat n) 2 = false) (h1:ilt 16 (ofNat n) = false) (h2:AL n = true) (h3:ieq (EK 1 n f) 0 = true) (h4:Ab n = true) (h5:ilt (Ew n f) 2 = true):(As (Aj tab ⟨Ao Fy,L,Gl⟩ Try.f50 [iV 1,A2 n f] [])).sem = some ((.tup [iV 42,iV 0]),[]):=Aa (bbK 15 30208) ((fun c0 c1 c2=>[c0,c0,c0,false,c1,c1,c1,c1,ilt 16 (ofNat n),c2,AL n,Am (ieq (EK 1 n f) 0),c2,Ab n,ilt (Ew n f) 2]) (Am (ieq 1 1)) (ilt (ofNat n) 2) (Ai n (fun _=>true))) (by kernel_rfl) (by simp only [*,Ar] <;> rfl)
theorem Ade (h0:ilt (ofNat n) 2 = false) (h1:ilt 16 (ofNat n) = false) (h2:AL n = true) (h3:ieq (EK 1 n f) 0 = true) (h4:Ab n = true) (h5:ilt (Ew n f) 2 = false) (h6:ilt (FD n f) 2 = true):(As (Aj tab ⟨Ao Fy,L,Gl⟩ Try.f50 [iV 1,A2 n f] [])).sem = some ((.tup [iV 43,iV 0]),[]):=Aa (bbK 18 243200) ((fun c0 c1 c2 c3=>[c0,c0,c0,false,c1,c1,c1,c1,ilt 16 (ofNat n),c2,AL n,Am (ieq (EK 1 n f) 0),c2,c3,ilt (Ew n f) 2,c2,c3,ilt (FD n f) 2]) (Am (ieq 1 1)) (ilt (ofNat n) 2) (Ai n (fun _=>true)) (Ab n)) (by kernel_rfl) (by simp only [*,Ar] <;> rfl)
theorem Ada (h0:ilt (ofNat n) 2 = false) (h1:ilt 16 (ofNat n) = false) (h2:AL n = true) (h3:ieq (EK 1 n f) 0 = true) (h4:Ab n = true) (h5:ilt (Ew n f) 2 = false) (h6:ilt (FD n f) 2 = false) (h7:BO 8 (ofNat n) (ofNat n) = true) (h8:AV n n = true) (h9:okP n (A0 (fun k=>Au (f k)) n) = true) (h10:crB n (A0 (fun k=>Au (f k)) n) (fun i=>isW (f i)) 2 = true):(As (Aj tab ⟨Ao Fy,L,Gl⟩ Try.f50 [iV 1,A2 n f] [])).sem = some ((.tup [iV 44,iV (crI n (A0 (fun k=>Au (f k)) n) (fun i=>isW (f i)) 2)]),[]):=Aa (bbK 26 66958848) ((fun c0 c1 c2 c3=>[c0,c0,c0,false,c1,c1,c1,c1,ilt 16 (ofNat n),c2,AL n,Am (ieq (EK 1 n f) 0),c2,c3,ilt (Ew n f) 2,c2,c3,ilt (FD n f) 2,c2,BO 8 (ofNat n) (ofNat n),c2,c2,AV n n,c3,okP n (A0 (fun k=>Au (f k)) n),crB n (A0 (fun k=>Au (f k)) n) (fun i=>isW (f i)) 2]) (Am (ieq 1 1)) (ilt (ofNat n) 2) (Ai n (fun _=>true)) (Ab n)) (by kernel_rfl) (by simp only [*,Ar] <;> rfl)
theorem Adg (h0:ilt (ofNat n) 2 = false) (h1:ilt 16 (ofNat n) = false) (h2:AL n = true) (h3:ieq (EK 1 n f) 0 = true) (h4:Ab n = true) (h5:ilt (Ew n f) 2 = false) (h6:ilt (FD n f) 2 = false) (h7:BO 8 (ofNat n) (ofNat n) = true) (h8:AV n n = true) (h9:okP n (A0 (fun k=>Au (f k)) n) = true) (h10:crB n (A0 (fun k=>Au (f k)) n) (fun i=>isW (f i)) 2 = false) (h11:okP n (A0 (fun k=>Ay (f k)) n) = true) (h12:crB n (A0 (fun k=>Ay (f k)) n) (fun _=>true) 12 = true):(As (Aj tab ⟨Ao Fy,L,Gl⟩ Try.f50 [iV 1,A2 n f] [])).sem = some ((.tup [iV 45,iV (crI n (A0 (fun k=>Ay (f k)) n) (fun _=>true) 12)]),[]):=Aa (bbK 32 4261262848) ((fun c0 c1 c2 c3 c4=>[c0,c0,c0,false,c1,c1,c1,c1,ilt 16 (ofNat n),c2,AL n,Am (ieq (EK 1 n f) 0),c2,c3,ilt (Ew n f) 2,c2,c3,ilt (FD n f) 2,c2,c4,c2,c2,AV n n,c3,okP n (A0 (fun k=>Au (f k)) n),crB n (A0 (fun k=>Au (f k)) n) (fun i=>isW (f i)) 2,c2,c4,c2,c3,okP n (A0 (fun k=>Ay (f k)) n),crB n (A0 (fun k=>Ay (f k)) n) (fun _=>true) 12]) (Am (ieq 1 1)) (ilt (ofNat n) 2) (Ai n (fun _=>true)) (Ab n) (BO 8 (ofNat n) (ofNat n))) (by kernel_rfl) (by simp only [*,Ar] <;> rfl)
theorem AcZ (h0:ilt (ofNat n) 2 = false) (h1:ilt 16 (ofNat n) = false) (h2:AL n = true) (h3:ieq (EK 1 n f) 0 = true) (h4:Ab n = true) (h5:ilt (Ew n f) 2 = false) (h6:ilt (FD n f) 2 = false) (h7:BO 8 (ofNat n) (ofNat n) = true) (h8:AV n n = true) (h9:okP n (A0 (fun k=>Au (f k)) n) = true) (h10:crB n (A0 (fun k=>Au (f k)) n) (fun i=>isW (f i)) 2 = false) (h11:okP n (A0 (fun k=>Ay (f k)) n) = true) (h12:crB n (A0 (fun k=>Ay (f k)) n) (fun _=>true) 12 = false):(As (Aj tab ⟨Ao Fy,L,Gl⟩ Try.f50 [iV 1,A2 n f] [])).sem = some ((.tup [iV 0,iV 0]),[]):=Aa (bbK 32 2113779200) ((fun c0 c1 c2 c3 c4=>[c0,c0,c0,false,c1,c1,c1,c1,ilt 16 (ofNat n),c2,AL n,Am (ieq (EK 1 n f) 0),c2,c3,ilt (Ew n f) 2,c2,c3,ilt (FD n f) 2,c2,c4,c2,c2,AV n n,c3,okP n (A0 (fun k=>Au (f k)) n),crB n (A0 (fun k=>Au (f k)) n) (fun i=>isW (f i)) 2,c2,c4,c2,c3,okP n (A0 (fun k=>Ay (f k)) n),crB n (A0 (fun k=>Ay (f k)) n) (fun _=>true) 12]) (Am (ieq 1 1)) (ilt (ofNat n) 2) (Ai n (fun _=>true)) (Ab n) (BO 8 (ofNat n) (ofNat n))) (by kernel_rfl) (by simp only [*,Ar] <;> rfl)
theorem Adk (h0:ilt (ofNat n) 2 = true):(As (Aj tab ⟨Ao Fy,L,Gl⟩ Try.f50 [iV 2,A2 n f] [])).sem = some ((.tup [iV 40,iV 0]),[]):=Aa (bbK 9 503) ((fun c0 c1=>[c0,c0,c0,Am (ieq 2 2),c1,c1,c1,c1,true]) (Am (ieq 2 1)) (ilt (ofNat n) 2)) (by kernel_rfl) (by simp only [h0] <;> rfl)
theorem Adj (h0:ilt (ofNat n) 2 = false) (h1:ilt 16 (ofNat n) = true):(As (Aj tab ⟨Ao Fy,L,Gl⟩ Try.f50 [iV 2,A2 n f] [])).sem = some ((.tup [iV 40,iV 0]),[]):=Aa (bbK 9 263) ((fun c0 c1=>[c0,c0,c0,Am (ieq 2 2),c1,c1,c1,c1,ilt 16 (ofNat n)]) (Am (ieq 2 1)) (ilt (ofNat n) 2)) (by kernel_rfl) (by simp only [h0,h1] <;> rfl)
theorem Adn (h0:ilt (ofNat n) 2 = false) (h1:ilt 16 (ofNat n) = false) (h2:AL n = true) (h3:ieq (EK 2 n f) 0 = false):(As (Aj tab ⟨Ao Fy,L,Gl⟩ Try.f50 [iV 2,A2 n f] [])).sem = some ((.tup [iV (EK 2 n f),iV (AiJ 2 n f)]),[]):=Aa (bbK 12 3591) ((fun c0 c1=>[c0,c0,c0,Am (ieq 2 2),c1,c1,c1,c1,ilt 16 (ofNat n),Ai n (fun _=>true),AL n,Am (ieq (EK 2 n f) 0)]) (Am (ieq 2 1)) (ilt (ofNat n) 2)) (by kernel_rfl) (by simp only [*,Ar] <;> rfl)
theorem Adl (h0:ilt (ofNat n) 2 = false) (h1:ilt 16 (ofNat n) = false) (h2:AL n = true) (h3:ieq (EK 2 n f) 0 = true) (h4:Ab n = true) (h5:ilt (Ew n f) 2 = true):(As (Aj tab ⟨Ao Fy,L,Gl⟩ Try.f50 [iV 2,A2 n f] [])).sem = some ((.tup [iV 42,iV 0]),[]):=Aa (bbK 15 30215) ((fun c0 c1 c2=>[c0,c0,c0,Am (ieq 2 2),c1,c1,c1,c1,ilt 16 (ofNat n),c2,AL n,Am (ieq (EK 2 n f) 0),c2,Ab n,ilt (Ew n f) 2]) (Am (ieq 2 1)) (ilt (ofNat n) 2) (Ai n (fun _=>true))) (by kernel_rfl) (by simp only [*,Ar] <;> rfl)
theorem Adm (h0:ilt (ofNat n) 2 = false) (h1:ilt 16 (ofNat n) = false) (h2:AL n = true) (h3:ieq (EK 2 n f) 0 = true) (h4:Ab n = true) (h5:ilt (Ew n f) 2 = false) (h6:ilt (FD n f) 2 = true):(As (Aj tab ⟨Ao Fy,L,Gl⟩ Try.f50 [iV 2,A2 n f] [])).sem = some ((.tup [iV 43,iV 0]),[]):=Aa (bbK 18 243207) ((fun c0 c1 c2 c3=>[c0,c0,c0,Am (ieq 2 2),c1,c1,c1,c1,ilt 16 (ofNat n),c2,AL n,Am (ieq (EK 2 n f) 0),c2,c3,ilt (Ew n f) 2,c2,c3,ilt (FD n f) 2]) (Am (ieq 2 1)) (ilt (ofNat n) 2) (Ai n (fun _=>true)) (Ab n)) (by kernel_rfl) (by simp only [*,Ar] <;> rfl)
theorem Adi (h0:ilt (ofNat n) 2 = false) (h1:ilt 16 (ofNat n) = false) (h2:AL n = true) (h3:ieq (EK 2 n f) 0 = true) (h4:Ab n = true) (h5:ilt (Ew n f) 2 = false) (h6:ilt (FD n f) 2 = false) (h7:BO 8 (ofNat n) (ofNat n) = true) (h8:AV n n = true) (h9:okP n (A0 (fun k=>Au (f k)) n) = true) (h10:crB n (A0 (fun k=>Au (f k)) n) (fun i=>isW (f i)) 2 = true):(As (Aj tab ⟨Ao Fy,L,Gl⟩ Try.f50 [iV 2,A2 n f] [])).sem = some ((.tup [iV 44,iV (crI n (A0 (fun k=>Au (f k)) n) (fun i=>isW (f i)) 2)]),[]):=Aa (bbK 26 66958855) ((fun c0 c1 c2 c3=>[c0,c0,c0,Am (ieq 2 2),c1,c1,c1,c1,ilt 16 (ofNat n),c2,AL n,Am (ieq (EK 2 n f) 0),c2,c3,ilt (Ew n f) 2,c2,c3,ilt (FD n f) 2,c2,BO 8 (ofNat n) (ofNat n),c2,c2,AV n n,c3,okP n (A0 (fun k=>Au (f k)) n),crB n (A0 (fun k=>Au (f k)) n) (fun i=>isW (f i)) 2]) (Am (ieq 2 1)) (ilt (ofNat n) 2) (Ai n (fun _=>true)) (Ab n)) (by kernel_rfl) (by simp only [*,Ar] <;> rfl)
theorem Ado (h0:ilt (ofNat n) 2 = false) (h1:ilt 16 (ofNat n) = false) (h2:AL n = true) (h3:ieq (EK 2 n f) 0 = true) (h4:Ab n = true) (h5:ilt (Ew n f) 2 = false) (h6:ilt (FD n f) 2 = false) (h7:BO 8 (ofNat n) (ofNat n) = true) (h8:AV n n = true) (h9:okP n (A0 (fun k=>Au (f k)) n) = true) (h10:crB n (A0 (fun k=>Au (f k)) n) (fun i=>isW (f i)) 2 = false) (h11:okP n (A0 (fun k=>Ay (f k)) n) = true) (h12:crB n (A0 (fun k=>Ay (f k)) n) (fun _=>true) 12 = true):(As (Aj tab ⟨Ao Fy,L,Gl⟩ Try.f50 [iV 2,A2 n f] [])).sem = some ((.tup [iV 45,iV (crI n (A0 (fun k=>Ay (f k)) n) (fun _=>true) 12)]),[]):=Aa (bbK 32 4261262855) ((fun c0 c1 c2 c3 c4=>[c0,c0,c0,Am (ieq 2 2),c1,c1,c1,c1,ilt 16 (ofNat n),c2,AL n,Am (ieq (EK 2 n f) 0),c2,c3,ilt (Ew n f) 2,c2,c3,ilt (FD n f) 2,c2,c4,c2,c2,AV n n,c3,okP n (A0 (fun k=>Au (f k)) n),crB n (A0 (fun k=>Au (f k)) n) (fun i=>isW (f i)) 2,c2,c4,c2,c3,okP n (A0 (fun k=>Ay (f k)) n),crB n (A0 (fun k=>Ay (f k)) n) (fun _=>true) 12]) (Am (ieq 2 1)) (ilt (ofNat n) 2) (Ai n (fun _=>true)) (Ab n) (BO 8 (ofNat n) (ofNat n))) (by kernel_rfl) (by simp only [*,Ar] <;> rfl)
theorem Adh (h0:ilt (ofNat n) 2 = false) (h1:ilt 16 (ofNat n) = false) (h2:AL n = true) (h3:ieq (EK 2 n f) 0 = true) (h4:Ab n = true) (h5:ilt (Ew n f) 2 = false) (h6:ilt (FD n f) 2 = false) (h7:BO 8 (ofNat n) (ofNat n) = true) (h8:AV n n = true) (h9:okP n (A0 (fun k=>Au (f k)) n) = true) (h10:crB n (A0 (fun k=>Au (f k)) n) (fun i=>isW (f i)) 2 = false) (h11:okP n (A0 (fun k=>Ay (f k)) n) = true) (h12:crB n (A0 (fun k=>Ay (f k)) n) (fun _=>true) 12 = false):(As (Aj tab ⟨Ao Fy,L,Gl⟩ Try.f50 [iV 2,A2 n f] [])).sem = some ((.tup [iV 0,iV 0]),[]):=Aa (bbK 32 2113779207) ((fun c0 c1 c2 c3 c4=>[c0,c0,c0,Am (ieq 2 2),c1,c1,c1,c1,ilt 16 (ofNat n),c2,AL n,Am (ieq (EK 2 n f) 0),c2,c3,ilt (Ew n f) 2,c2,c3,ilt (FD n f) 2,c2,c4,c2,c2,AV n n,c3,okP n (A0 (fun k=>Au (f k)) n),crB n (A0 (fun k=>Au (f k)) n) (fun i=>isW (f i)) 2,c2,c4,c2,c3,okP n (A0 (fun k=>Ay (f k)) n),crB n (A0 (fun k=>Ay (f k)) n) (fun _=>true) 12]) (Am (ieq 2 1)) (ilt (ofNat n) 2) (Ai n (fun _=>true)) (Ab n) (BO 8 (ofNat n) (ofNat n))) (by kernel_rfl) (by simp only [*,Ar] <;> rfl)
end
theorem Ag6 (L:LT) (a:Int) (n:Nat) (f:Nat->E6) (h0:ieq a 1 = false) (h1:ieq a 2 = false):(As (Aj tab ⟨Ao Fy,L,Gl⟩ Try.f50 [iV a,A2 n f] [])).sem = some ((.tup [iV 1,iV 0]),[]):=Aa [true,true,true,true] [Am (ieq a 1),Am (ieq a 1),Am (ieq a 1),Am (ieq a 2)] (by kernel_rfl) (by simp only [h0,h1] <;> rfl)
theorem ZO (n:Nat) (f:Nat->E6) (hF:AL n = true) :
    (As (Aj tab (AI Gl Fy []) Try.f50 [iV 1,A2 n f] [])).sem = some (.tup [iV (JN 1 n f).1,iV (JN 1 n f).2],[]):=by
  have hn:=CP (EY hF)
  have hs:Ab n = true:=decide_eq_true hn
  have hk:BO 8 (ofNat n) (ofNat n) = true:=by
    have:=H3 hF
    simp only [BO,Bool.and_eq_true,decide_eq_true_eq,Int.ofNat_eq_natCast]
    omega
  unfold JN
  cases hA:ilt (ofNat n) 2 with
  | true=>exact Adc _ n f hA
  | false =>
    cases hB:ilt 16 (ofNat n) with
    | true=>exact Adb _ n f hA hB
    | false =>
      show _ = some (V.tup [iV (match D7 1 n f,ieq (D7 1 n f).1 0 with | r,false=>r | _,true=>Fl n f).1,iV (match D7 1 n f,ieq (D7 1 n f).1 0 with | r,false=>r | _,true=>Fl n f).2],[])
      cases c1:ieq (D7 1 n f).1 0 with
      | false=>exact Adf _ n f hA hB hF c1
      | true =>
        show _ = some (V.tup [iV (Fl n f).1,iV (Fl n f).2],[])
        unfold Fl
        cases c3:ilt (Ew n f) 2 with
        | true=>exact Add _ n f hA hB hF c1 hs c3
        | false =>
          cases c4:ilt (FD n f) 2 with
          | true=>exact Ade _ n f hA hB hF c1 hs c3 c4
          | false =>
            show _ = some (V.tup [iV (JM n f).1,iV (JM n f).2],[])
            unfold JM
            cases c5:crB n (A0 (fun k=>Au (f k)) n) (fun i=>isW (f i)) 2 with
            | true =>
              rw [show crR n (A0 (fun k=>Au (f k)) n) (fun i=>isW (f i)) 2 = (crI n (A0 (fun k=>Au (f k)) n) (fun i=>isW (f i)) 2,true) from Prod.ext rfl c5]
              exact Ada _ n f hA hB hF c1 hs c3 c4 hk (Nat.beq_refl n) (D3 _ n hn) c5
            | false =>
              rw [show crR n (A0 (fun k=>Au (f k)) n) (fun i=>isW (f i)) 2 = (crI n (A0 (fun k=>Au (f k)) n) (fun i=>isW (f i)) 2,false) from Prod.ext rfl c5]
              cases c6:crB n (A0 (fun k=>Ay (f k)) n) (fun _=>true) 12 with
              | true =>
                rw [show crR n (A0 (fun k=>Ay (f k)) n) (fun _=>true) 12 = (crI n (A0 (fun k=>Ay (f k)) n) (fun _=>true) 12,true) from Prod.ext rfl c6]
                exact Adg _ n f hA hB hF c1 hs c3 c4 hk (Nat.beq_refl n) (D3 _ n hn) c5 (D3 _ n hn) c6
              | false =>
                rw [show crR n (A0 (fun k=>Ay (f k)) n) (fun _=>true) 12 = (crI n (A0 (fun k=>Ay (f k)) n) (fun _=>true) 12,false) from Prod.ext rfl c6]
                exact AcZ _ n f hA hB hF c1 hs c3 c4 hk (Nat.beq_refl n) (D3 _ n hn) c5 (D3 _ n hn) c6
theorem ZP (n:Nat) (f:Nat->E6) (hF:AL n = true) :
    (As (Aj tab (AI Gl Fy []) Try.f50 [iV 2,A2 n f] [])).sem = some (.tup [iV (JN 2 n f).1,iV (JN 2 n f).2],[]):=by
  have hn:=CP (EY hF)
  have hs:Ab n = true:=decide_eq_true hn
  have hk:BO 8 (ofNat n) (ofNat n) = true:=by
    have:=H3 hF
    simp only [BO,Bool.and_eq_true,decide_eq_true_eq,Int.ofNat_eq_natCast]
    omega
  unfold JN
  cases hA:ilt (ofNat n) 2 with
  | true=>exact Adk _ n f hA
  | false =>
    cases hB:ilt 16 (ofNat n) with
    | true=>exact Adj _ n f hA hB
    | false =>
      show _ = some (V.tup [iV (match D7 2 n f,ieq (D7 2 n f).1 0 with | r,false=>r | _,true=>Fl n f).1,iV (match D7 2 n f,ieq (D7 2 n f).1 0 with | r,false=>r | _,true=>Fl n f).2],[])
      cases c1:ieq (D7 2 n f).1 0 with
      | false=>exact Adn _ n f hA hB hF c1
      | true =>
        show _ = some (V.tup [iV (Fl n f).1,iV (Fl n f).2],[])
        unfold Fl
        cases c3:ilt (Ew n f) 2 with
        | true=>exact Adl _ n f hA hB hF c1 hs c3
        | false =>
          cases c4:ilt (FD n f) 2 with
          | true=>exact Adm _ n f hA hB hF c1 hs c3 c4
          | false =>
            show _ = some (V.tup [iV (JM n f).1,iV (JM n f).2],[])
            unfold JM
            cases c5:crB n (A0 (fun k=>Au (f k)) n) (fun i=>isW (f i)) 2 with
            | true =>
              rw [show crR n (A0 (fun k=>Au (f k)) n) (fun i=>isW (f i)) 2 = (crI n (A0 (fun k=>Au (f k)) n) (fun i=>isW (f i)) 2,true) from Prod.ext rfl c5]
              exact Adi _ n f hA hB hF c1 hs c3 c4 hk (Nat.beq_refl n) (D3 _ n hn) c5
            | false =>
              rw [show crR n (A0 (fun k=>Au (f k)) n) (fun i=>isW (f i)) 2 = (crI n (A0 (fun k=>Au (f k)) n) (fun i=>isW (f i)) 2,false) from Prod.ext rfl c5]
              cases c6:crB n (A0 (fun k=>Ay (f k)) n) (fun _=>true) 12 with
              | true =>
                rw [show crR n (A0 (fun k=>Ay (f k)) n) (fun _=>true) 12 = (crI n (A0 (fun k=>Ay (f k)) n) (fun _=>true) 12,true) from Prod.ext rfl c6]
                exact Ado _ n f hA hB hF c1 hs c3 c4 hk (Nat.beq_refl n) (D3 _ n hn) c5 (D3 _ n hn) c6
              | false =>
                rw [show crR n (A0 (fun k=>Ay (f k)) n) (fun _=>true) 12 = (crI n (A0 (fun k=>Ay (f k)) n) (fun _=>true) 12,false) from Prod.ext rfl c6]
                exact Adh _ n f hA hB hF c1 hs c3 c4 hk (Nat.beq_refl n) (D3 _ n hn) c5 (D3 _ n hn) c6
theorem p48:AB Try.prog Gl 50 WH:=by
  refine A1 AQ AR Try.func50 (by kernel_rfl) (by kernel_rfl) fun vs v h' h=>?_
  unfold WH at h
  split at h
  · rename_i a u
    obtain ⟨n,f,ha,h1⟩:=Cj h
    obtain ⟨hn,hq⟩:=Ah h1
    have:=Ad hq
    simp only [Prod.mk.injEq] at this
    obtain ⟨rfl,rfl⟩:=this
    cases ca:ieq a 1 with
    | true =>
      have h9:=Gy ca
      subst h9
      have hx:=AP PF []
      exact ⟨_,AI Gl Fy [],_,Um ha,rfl,hx.1,hx.2,ZO n f hn,A6.refl _⟩
    | false =>
      cases cb:ieq a 2 with
      | true =>
        have h9:=Gy cb
        subst h9
        have hx:=AP PF []
        exact ⟨_,AI Gl Fy [],_,Um ha,rfl,hx.1,hx.2,ZP n f hn,A6.refl _⟩
      | false =>
        have hx:=AP PF []
        refine ⟨_,AI Gl Fy [],_,Um ha,rfl,hx.1,hx.2,?_,A6.refl _⟩
        unfold QX
        rw [ca,cb]
        exact Ag6 _ a n f ca cb
  · cases h
end Go.Proofs.Ytjhnfomefcngfaa.Ed
