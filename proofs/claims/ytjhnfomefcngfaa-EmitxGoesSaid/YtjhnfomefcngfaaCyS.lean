/-
  Check, the program's and the document's: one answer. No conditions.
-/
import Derived.Test.YtjhnfomefcngfaaCyR
namespace Go.Proofs.Ytjhnfomefcngfaa.Ed
open Go.Sy
open Int (ofNat)
abbrev U:V:=.und
noncomputable def Dh:List (Nat × (List V->T (V × List Blk))):=(64,BR λe=>iV (AM e)) :: (65,ap2 gI toE λa e=>out (S7 a e)) :: (22,BR λe=>bV (As e)) :: (23,BR λe=>bV (Ar e)) :: (66,Q3) :: (67,Q2) :: (68,ZY) :: []
theorem Qd:AC Try.prog Gl Dh:=.cons p29 <| .cons p33 <| .cons p60 <| .cons p61 <| .cons p94 <| .cons p95 <| .cons p96 .nil
def En (n:Nat) (f:Nat->E6):Int:=ofNat (Ak (λk=>As (f k)) n)
def Fn (n:Nat) (f:Nat->E6):Int:=ofNat (Ak (λk=>Ar (f k)) n)
def II (n:Nat) (f:Nat->E6):Int × Int :=
 match crR n (Av (λk=>Ar (f k)) n) (λi=>isW (f i)) 2 with
 | (i,true)=>(44,i)
 | (_,false)=>match crR n (Av (λk=>As (f k)) n) (λ_=>true) 12 with
   | (i,true)=>(45,i)
   | (_,false)=>(0,0)
def EX (n:Nat) (f:Nat->E6):Int × Int :=
 match ilt (En n f) 2,ilt (Fn n f) 2 with
 | true,_=>(42,0)
 | false,true=>(43,0)
 | false,false=>II n f
def J9 (a:Int) (n:Nat) (f:Nat->E6):Int × Int :=
 match ilt (ofNat n) 2,ilt 16 (ofNat n) with
 | true,_=>(40,0)
 | false,true=>(40,0)
 | false,false=>match D2 a n f,ieq (D2 a n f).1 0 with
  | r,false=>r
  | _,true=>EX n f
def OX (a:Int) (n:Nat) (f:Nat->E6):Int × Int :=
 match ieq a 1,ieq a 2 with
 | false,false=>(1,0)
 | _,_=>J9 a n f
def Xp:List V->T (V × List Blk)
 | [.val (.int .i64 a),v]=>apL v λn f=>.br (AN n) (out (.tup [iV (OX a n f).1,iV (OX a n f).2])) .fail
 | _=>.fail
theorem Wl {a:Int} {n:Nat} {f:Nat->E6} (h:ieq a 1 = true ∨ ieq a 2 = true):OX a n f = J9 a n f:=by
 unfold OX
 rcases h with h | h
 ·rw [h]
 ·rw [h]
  cases ieq a 1 <;> rfl
def K0 (n:Nat) (_:Nat->E6):Lp:=⟨(bmK 133 0 [0,1,4,5,6,7,8,9]),0,bmK 133 0 [1,4,5,6,7,8],0,n+1⟩
def Db (n:Nat) (f:Nat->E6) (x y:Int) (i:Nat) (j:Nat->V):St:=⟨(jsV 133 0 j [(0,iV 1),(1,.sl 6 n (λi=>eV (f i))),(4,iV 0),(5,iV 0),(6,nV n),(7,iV x),(8,iV y),(9,nV i)]),[]⟩
def Cs (n:Nat) (f:Nat->E6) (x y:Int) (_:Nat):Ex × St:=(.ex 0,⟨(jsV 133 0 (λ_=>.und) [(1,.sl 6 n (λi=>eV (f i))),(4,iV 0),(5,iV 0),(6,nV n),(7,iV x),(8,iV y)]),[]⟩)
def Re (n:Nat) (f:Nat->E6) (x y:Int) (i:Nat):Ex × St:=(.rt,⟨(jsV 133 0 (λ_=>.und) [(1,.sl 6 n (λi=>eV (f i))),(4,iV 30),(5,nV i),(6,nV n),(7,iV x),(8,iV y)]),[]⟩)
def Rd (n:Nat) (f:Nat->E6) (x y:Int) (i:Nat):Ex × St:=(.rt,⟨(jsV 133 0 (λ_=>.und) [(1,.sl 6 n (λi=>eV (f i))),(4,iV 5),(5,nV i),(6,nV n),(7,iV x),(8,iV y)]),[]⟩)
noncomputable def BA (L:LT):St->T (Ex × St):=λst=>AG tab ⟨Aq Dh,L,Gl⟩ (A1 Try.f19 0) 0 st
section
variable (L:LT) (n:Nat) (f:Nat->E6) (x y:Int) (i:Nat)  (j:Nat->V)
include L n f x y i j
theorem AfY (h0:ilt (ofNat i) (ofNat n) = false):Aj (BA L) (K0 n f) (Db n f x y i j) = some ((.ex 0),⟨(jsV 133 0 (λ_=>.und) [(1,(.sl 6 n (λi=>eV (f i)))),(4,(iV 0)),(5,(iV 0)),(6,(nV n)),(7,(iV x)),(8,(iV y))]),[]⟩):=Aa [false] [ilt (ofNat i) (ofNat n)] (by kernel_rfl) (by simp only [h0] <;> rfl)
theorem AfX (h0:ilt (ofNat i) (ofNat n) = true) (h1:Af (ile 0 (ofNat i)) (ilt (ofNat i) (ofNat n)) = true) (h2:ieq (AM (f i)) 0 = false):Aj (BA L) (K0 n f) (Db n f x y i j) = some (.rt,⟨(jsV 133 0 (λ_=>.und) [(1,(.sl 6 n (λi=>eV (f i)))),(4,(iV 30)),(5,(nV i)),(6,(nV n)),(7,(iV x)),(8,(iV y))]),[]⟩):=Aa [true,true,true] [ilt (ofNat i) (ofNat n),Af (ile 0 (ofNat i)) (ilt (ofNat i) (ofNat n)),Ah (ieq (AM (f i)) 0)] (by kernel_rfl) (by simp only [h1] <;> simp only [h0,h2] <;> rfl)
theorem AfW (h0:ilt (ofNat i) (ofNat n) = true) (h1:Af (ile 0 (ofNat i)) (ilt (ofNat i) (ofNat n)) = true) (h2:ieq (AM (f i)) 0 = true) (h3:DL 1 (f i) = false):Aj (BA L) (K0 n f) (Db n f x y i j) = some (.rt,⟨(jsV 133 0 (λ_=>.und) [(1,(.sl 6 n (λi=>eV (f i)))),(4,(iV 5)),(5,(nV i)),(6,(nV n)),(7,(iV x)),(8,(iV y))]),[]⟩):=Aa [true,true,false,true,true] ((λc0=>[ilt (ofNat i) (ofNat n),c0,Ah (ieq (AM (f i)) 0),c0,Ah (DL 1 (f i))]) (Af (ile 0 (ofNat i)) (ilt (ofNat i) (ofNat n)))) (by kernel_rfl) (by simp only [h1] <;> simp only [*] <;> rfl)
theorem Abj (h0:ilt (ofNat i) (ofNat n) = true) (h1:Af (ile 0 (ofNat i)) (ilt (ofNat i) (ofNat n)) = true) (h2:ieq (AM (f i)) 0 = true) (h3:DL 1 (f i) = true) (h4:As (f i) = false) (h5:Ar (f i) = false):Aj (BA L) (K0 n f) (Db n f x y i j) = some (.nm,⟨(jsV 133 0 (λ_=>.und) [(0,(iV 1)),(1,(.sl 6 n (λi=>eV (f i)))),(4,(iV 0)),(5,(iV 0)),(6,(nV n)),(7,(iV x)),(8,(iV y)),(9,(iV (wr .i64 (Ae (ofNat i) 1))))]),[]⟩):=Aa (bbK 9 171) ((λc0=>[ilt (ofNat i) (ofNat n),c0,Ah (ieq (AM (f i)) 0),c0,Ah (DL 1 (f i)),c0,As (f i),c0,Ar (f i)]) (Af (ile 0 (ofNat i)) (ilt (ofNat i) (ofNat n)))) (by kernel_rfl) (by simp only [h1] <;> simp only [*] <;> rfl)
theorem Abk (h0:ilt (ofNat i) (ofNat n) = true) (h1:Af (ile 0 (ofNat i)) (ilt (ofNat i) (ofNat n)) = true) (h2:ieq (AM (f i)) 0 = true) (h3:DL 1 (f i) = true) (h4:As (f i) = false) (h5:Ar (f i) = true):Aj (BA L) (K0 n f) (Db n f x y i j) = some (.nm,⟨(jsV 133 0 (λ_=>.und) [(0,(iV 1)),(1,(.sl 6 n (λi=>eV (f i)))),(4,(iV 0)),(5,(iV 0)),(6,(nV n)),(7,(iV x)),(8,(iV (wr .i64 (Ae y 1)))),(9,(iV (wr .i64 (Ae (ofNat i) 1))))]),[]⟩):=Aa (bbK 9 427) ((λc0=>[ilt (ofNat i) (ofNat n),c0,Ah (ieq (AM (f i)) 0),c0,Ah (DL 1 (f i)),c0,As (f i),c0,Ar (f i)]) (Af (ile 0 (ofNat i)) (ilt (ofNat i) (ofNat n)))) (by kernel_rfl) (by simp only [h1] <;> simp only [*] <;> rfl)
theorem Abh (h0:ilt (ofNat i) (ofNat n) = true) (h1:Af (ile 0 (ofNat i)) (ilt (ofNat i) (ofNat n)) = true) (h2:ieq (AM (f i)) 0 = true) (h3:DL 1 (f i) = true) (h4:As (f i) = true) (h5:Ar (f i) = false):Aj (BA L) (K0 n f) (Db n f x y i j) = some (.nm,⟨(jsV 133 0 (λ_=>.und) [(0,(iV 1)),(1,(.sl 6 n (λi=>eV (f i)))),(4,(iV 0)),(5,(iV 0)),(6,(nV n)),(7,(iV (wr .i64 (Ae x 1)))),(8,(iV y)),(9,(iV (wr .i64 (Ae (ofNat i) 1))))]),[]⟩):=Aa (bbK 9 235) ((λc0=>[ilt (ofNat i) (ofNat n),c0,Ah (ieq (AM (f i)) 0),c0,Ah (DL 1 (f i)),c0,As (f i),c0,Ar (f i)]) (Af (ile 0 (ofNat i)) (ilt (ofNat i) (ofNat n)))) (by kernel_rfl) (by simp only [h1] <;> simp only [*] <;> rfl)
theorem Abi (h0:ilt (ofNat i) (ofNat n) = true) (h1:Af (ile 0 (ofNat i)) (ilt (ofNat i) (ofNat n)) = true) (h2:ieq (AM (f i)) 0 = true) (h3:DL 1 (f i) = true) (h4:As (f i) = true) (h5:Ar (f i) = true):Aj (BA L) (K0 n f) (Db n f x y i j) = some (.nm,⟨(jsV 133 0 (λ_=>.und) [(0,(iV 1)),(1,(.sl 6 n (λi=>eV (f i)))),(4,(iV 0)),(5,(iV 0)),(6,(nV n)),(7,(iV (wr .i64 (Ae x 1)))),(8,(iV (wr .i64 (Ae y 1)))),(9,(iV (wr .i64 (Ae (ofNat i) 1))))]),[]⟩):=Aa (bbK 9 491) ((λc0=>[ilt (ofNat i) (ofNat n),c0,Ah (ieq (AM (f i)) 0),c0,Ah (DL 1 (f i)),c0,As (f i),c0,Ar (f i)]) (Af (ile 0 (ofNat i)) (ilt (ofNat i) (ofNat n)))) (by kernel_rfl) (by simp only [h1] <;> simp only [*] <;> rfl)
end
def Fs (n:Nat) (f:Nat->E6) :Nat->V:=lkV A9 [(17,(iV 1)),(18,(bV (Ah (ieq 1 1)))),(19,(bV (Ah (ieq 1 1)))),(22,(bV false)),(23,(.sl 6 n (λi=>eV (f i)))),(24,(nV n)),(25,(nV n)),(26,(bV (ilt (ofNat n) 2))),(27,(bV (ilt (ofNat n) 2))),(28,(nV n)),(29,(bV (ilt 16 (ofNat n)))),(30,(bV (ilt 16 (ofNat n))))]
def K4 (n:Nat) (_:Nat->E6):Lp:=⟨(bmK 133 0 [1,4,5,6,7,8,12]),0,bmK 133 0 [1,4,5,6,7,8],0,n+1⟩
def C7 (n:Nat) (f:Nat->E6) (x y:Int) (i:Nat) (j:Nat->V):St:=⟨(jsV 133 0 j [(1,.sl 6 n (λi=>eV (f i))),(4,iV 0),(5,iV 0),(6,nV n),(7,iV x),(8,iV y),(12,nV i)]),[]⟩
def BV (n:Nat) (f:Nat->E6) (x y:Int) (_:Nat):Ex × St:=(.ex 2,⟨(jsV 133 0 (λ_=>.und) [(1,.sl 6 n (λi=>eV (f i))),(4,iV 0),(5,iV 0),(6,nV n),(7,iV x),(8,iV y)]),[]⟩)
def Hg (n:Nat) (f:Nat->E6) (x y:Int) (i:Nat):Ex × St:=(.rt,⟨(jsV 133 0 (λ_=>.und) [(1,.sl 6 n (λi=>eV (f i))),(4,iV 41),(5,nV i),(6,nV n),(7,iV x),(8,iV y)]),[]⟩)
noncomputable def BI (L:LT):St->T (Ex × St):=λst=>AG tab ⟨Aq Dh,L,Gl⟩ (A1 Try.f19 2) 2 st
section
variable (L:LT) (n:Nat) (f:Nat->E6) (x y:Int) (i:Nat)  (j:Nat->V)
include L n f x y i j
theorem AfR (h0:ilt (ofNat i) (ofNat n) = false):Aj (BI L) (K4 n f) (C7 n f x y i j) = some ((.ex 2),⟨(jsV 133 0 (λ_=>.und) [(1,(.sl 6 n (λi=>eV (f i)))),(4,(iV 0)),(5,(iV 0)),(6,(nV n)),(7,(iV x)),(8,(iV y))]),[]⟩):=Aa [false] [ilt (ofNat i) (ofNat n)] (by kernel_rfl) (by simp only [h0] <;> rfl)
theorem AfQ (h0:ilt (ofNat i) (ofNat n) = true) (h1:Af (ile 0 (ofNat i)) (ilt (ofNat i) (ofNat n)) = true) (h2:ieq (ofNat n) 0 = false) (h3:Af (ile 0 (Ab (wr .i64 (Ae (ofNat i) 1)) (ofNat n))) (ilt (Ab (wr .i64 (Ae (ofNat i) 1)) (ofNat n)) (ofNat n)) = true) (h4:ieq ((f i)).dst ((f (toN (Ab (wr .i64 (Ae (ofNat i) 1)) (ofNat n))))).src = false):Aj (BI L) (K4 n f) (C7 n f x y i j) = some (.rt,⟨(jsV 133 0 (λ_=>.und) [(1,(.sl 6 n (λi=>eV (f i)))),(4,(iV 41)),(5,(nV i)),(6,(nV n)),(7,(iV x)),(8,(iV y))]),[]⟩):=Aa [true,true,false,true,true] [ilt (ofNat i) (ofNat n),Af (ile 0 (ofNat i)) (ilt (ofNat i) (ofNat n)),ieq (ofNat n) 0,Af (ile 0 (Ab (wr .i64 (Ae (ofNat i) 1)) (ofNat n))) (ilt (Ab (wr .i64 (Ae (ofNat i) 1)) (ofNat n)) (ofNat n)),Ah (ieq ((f i)).dst ((f (toN (Ab (wr .i64 (Ae (ofNat i) 1)) (ofNat n))))).src)] (by kernel_rfl) (by simp only [h1,h3] <;> simp only [*] <;> rfl)
theorem AfP (h0:ilt (ofNat i) (ofNat n) = true) (h1:Af (ile 0 (ofNat i)) (ilt (ofNat i) (ofNat n)) = true) (h2:ieq (ofNat n) 0 = false) (h3:Af (ile 0 (Ab (wr .i64 (Ae (ofNat i) 1)) (ofNat n))) (ilt (Ab (wr .i64 (Ae (ofNat i) 1)) (ofNat n)) (ofNat n)) = true) (h4:ieq ((f i)).dst ((f (toN (Ab (wr .i64 (Ae (ofNat i) 1)) (ofNat n))))).src = true):Aj (BI L) (K4 n f) (C7 n f x y i j) = some (.nm,⟨(jsV 133 0 (λ_=>.und) [(1,(.sl 6 n (λi=>eV (f i)))),(4,(iV 0)),(5,(iV 0)),(6,(nV n)),(7,(iV x)),(8,(iV y)),(12,(iV (wr .i64 (Ae (ofNat i) 1))))]),[]⟩):=Aa [true,true,false,true,false] [ilt (ofNat i) (ofNat n),Af (ile 0 (ofNat i)) (ilt (ofNat i) (ofNat n)),ieq (ofNat n) 0,Af (ile 0 (Ab (wr .i64 (Ae (ofNat i) 1)) (ofNat n))) (ilt (Ab (wr .i64 (Ae (ofNat i) 1)) (ofNat n)) (ofNat n)),Ah (ieq ((f i)).dst ((f (toN (Ab (wr .i64 (Ae (ofNat i) 1)) (ofNat n))))).src)] (by kernel_rfl) (by simp only [h1,h3] <;> simp only [*] <;> rfl)
end
def DG (_:Nat) (_:Nat->E6) (_ _:Int) (_:Nat):Nat->V:=lkV A9 [(0,.und),(2,.und),(3,.und),(9,.und),(10,.und),(11,.und),(13,.und),(14,.und),(15,.und),(16,.und),(17,.und),(18,.und),(19,.und),(20,.und),(21,.und),(22,.und),(23,.und),(24,.und),(25,.und),(26,.und),(27,.und),(28,.und),(29,.und),(30,.und),(31,.und),(32,.und),(33,.und),(34,.und),(35,.und),(36,.und),(37,.und),(38,.und),(39,.und),(40,.und),(41,.und),(42,.und),(43,.und),(44,.und),(45,.und),(46,.und),(47,.und),(48,.und),(49,.und),(50,.und),(51,.und),(52,.und),(53,.und),(54,.und),(55,.und),(56,.und),(57,.und),(58,.und),(59,.und),(60,.und),(61,.und),(62,.und),(63,.und),(64,.und),(65,.und),(66,.und),(67,.und),(68,.und),(69,.und),(70,.und),(71,.und),(72,.und),(73,.und),(74,.und),(75,.und),(76,.und),(77,.und),(78,.und),(79,.und),(80,.und),(81,.und),(82,.und),(83,.und),(84,.und),(85,.und),(86,.und),(87,.und),(88,.und),(89,.und),(90,.und),(91,.und),(92,.und),(93,.und),(94,.und),(95,.und),(96,.und),(97,.und),(98,.und),(99,.und),(100,.und),(101,.und),(102,.und),(103,.und),(104,.und),(105,.und),(106,.und),(107,.und),(108,.und),(109,.und),(110,.und),(111,.und),(112,.und),(113,.und),(114,.und),(115,.und),(116,.und),(117,.und),(118,.und),(119,.und),(120,.und),(121,.und),(122,.und),(123,.und),(124,.und),(125,.und),(126,.und),(127,.und),(128,.und),(129,.und),(130,.und),(131,.und),(132,.und)]
def Jn (n:Nat) (_:Nat->E6):Lp:=⟨(bmK 133 0 [1,4,5,6,13,14,15]),2,bmK 133 0 [1,4,5,6,13],2,n+1⟩
def Ef (n:Nat) (f:Nat->E6) (u v:Nat->Int) (i:Nat) (j:Nat->V):St:=⟨(jsV 133 0 j [(1,.sl 6 n (λi=>eV (f i))),(4,iV 0),(5,iV 0),(6,nV n),(13,.ref 0),(14,.ref 1),(15,nV i)]),[.row 3 1 n (λk=>iV (u k)),.row 3 1 n (λk=>iV (v k))]⟩
def IF (n:Nat) (f:Nat->E6) (u v:Nat->Int) (_:Nat):Ex × St:=(.ex 4,⟨(jsV 133 0 (λ_=>.und) [(1,.sl 6 n (λi=>eV (f i))),(4,iV 0),(5,iV 0),(6,nV n),(13,.ref 0)]),[.row 3 1 n (λk=>iV (u k)),.row 3 1 n (λk=>iV (v k))]⟩)
def Oy (n:Nat) (f:Nat->E6) (u v:Nat->Int) (i:Nat):Ex × St:=(.rt,⟨(jsV 133 0 (λ_=>.und) [(1,.sl 6 n (λi=>eV (f i))),(4,iV 44),(5,nV i),(6,nV n),(13,.ref 0)]),[.row 3 1 n (λk=>iV (u k)),.row 3 1 n (λk=>iV (v k))]⟩)
noncomputable def CE (L:LT):St->T (Ex × St):=λst=>AG tab ⟨Aq Dh,L,Gl⟩ (A1 Try.f19 4) 4 st
section
variable (L:LT) (n:Nat) (f:Nat->E6) (u v:Nat->Int) (i:Nat)  (j:Nat->V)
include L n f u v i j
theorem Afo (h0:ilt (ofNat i) (ofNat n) = false):Aj (CE L) (Jn n f) (Ef n f u v i j) = some ((.ex 4),⟨(jsV 133 0 (λ_=>.und) [(1,(.sl 6 n (λi=>eV (f i)))),(4,(iV 0)),(5,(iV 0)),(6,(nV n)),(13,(.ref 0))]),[.row 3 1 n (λk=>iV (u k)),.row 3 1 n (λk=>iV (v k))]⟩):=Aa [false] [ilt (ofNat i) (ofNat n)] (by kernel_rfl) (by simp only [h0] <;> rfl)
theorem Afr (h0:ilt (ofNat i) (ofNat n) = true) (h1:Af (ile 0 (ofNat i)) (ilt (ofNat i) (ofNat n)) = true) (h2:ieq ((f i)).src 2 = false):Aj (CE L) (Jn n f) (Ef n f u v i j) = some (.nm,⟨(jsV 133 0 (λ_=>.und) [(1,(.sl 6 n (λi=>eV (f i)))),(4,(iV 0)),(5,(iV 0)),(6,(nV n)),(13,(.ref 0)),(14,(.ref 1)),(15,(iV (wr .i64 (Ae (ofNat i) 1))))]),[.row 3 1 n (λk=>iV (u k)),.row 3 1 n (λk=>iV (v k))]⟩):=Aa (bbK 12 3) ((λc0=>[ilt (ofNat i) (ofNat n),Af (ile 0 (ofNat i)) (ilt (ofNat i) (ofNat n)),c0,c0,c0,c0,c0,c0,c0,c0,c0,false]) (ieq ((f i)).src 2)) (by kernel_rfl) (by simp only [h1] <;> simp only [h0,h2] <;> rfl)
theorem Afq (h0:ilt (ofNat i) (ofNat n) = true) (h1:Af (ile 0 (ofNat i)) (ilt (ofNat i) (ofNat n)) = true) (h2:ieq ((f i)).src 2 = true) (h15:nlt i n = true) (h3:A4 n n = true) (h4:Ai n = true) (h5:ilt 2 (Eo n v (λi=>bor (Ah true) (isW (f i))) (v i)) = false):Aj (CE L) (Jn n f) (Ef n f u v i j) = some (.nm,⟨(jsV 133 0 (λ_=>.und) [(1,(.sl 6 n (λi=>eV (f i)))),(4,(iV 0)),(5,(iV 0)),(6,(nV n)),(13,(.ref 0)),(14,(.ref 1)),(15,(iV (wr .i64 (Ae (ofNat i) 1))))]),[.row 3 1 n (λk=>iV (u k)),.row 3 1 n (λk=>iV (v k))]⟩):=Aa (bbK 18 131071) ((λc0 c1 c2=>[ilt (ofNat i) (ofNat n),c0,c1,c1,c1,c1,c1,c0,c1,nlt i n,c1,c2,c2,A4 n n,Ai n,c1,c1,ilt 2 (Eo n v (λi=>bor (Ah true) (isW (f i))) (v i))]) (Af (ile 0 (ofNat i)) (ilt (ofNat i) (ofNat n))) (ieq ((f i)).src 2) (Ay n (λ_=>true))) (by kernel_rfl) (by simp only [h1] <;> simp only [*,Ax] <;> rfl)
theorem Afp (h0:ilt (ofNat i) (ofNat n) = true) (h1:Af (ile 0 (ofNat i)) (ilt (ofNat i) (ofNat n)) = true) (h2:ieq ((f i)).src 2 = true) (h15:nlt i n = true) (h3:A4 n n = true) (h4:Ai n = true) (h5:ilt 2 (Eo n v (λi=>bor (Ah true) (isW (f i))) (v i)) = true):Aj (CE L) (Jn n f) (Ef n f u v i j) = some (.rt,⟨(jsV 133 0 (λ_=>.und) [(1,(.sl 6 n (λi=>eV (f i)))),(4,(iV 44)),(5,(nV i)),(6,(nV n)),(13,(.ref 0))]),[.row 3 1 n (λk=>iV (u k)),.row 3 1 n (λk=>iV (v k))]⟩):=Aa (bbK 18 262143) ((λc0 c1 c2=>[ilt (ofNat i) (ofNat n),c0,c1,c1,c1,c1,c1,c0,c1,nlt i n,c1,c2,c2,A4 n n,Ai n,c1,c1,ilt 2 (Eo n v (λi=>bor (Ah true) (isW (f i))) (v i))]) (Af (ile 0 (ofNat i)) (ilt (ofNat i) (ofNat n))) (ieq ((f i)).src 2) (Ay n (λ_=>true))) (by kernel_rfl) (by simp only [h1] <;> simp only [*,Ax] <;> rfl)
end
def Jt (n:Nat) (f:Nat->E6) (x y:Int) (_ _:Nat):Nat->V:=lkV A9 [(0,.und),(2,.und),(3,.und),(7,(iV x)),(8,(iV y)),(9,.und),(10,.und),(11,.und),(12,.und),(16,.und),(17,.und),(18,.und),(19,.und),(20,.und),(21,.und),(22,.und),(23,.und),(24,.und),(25,.und),(26,.und),(27,.und),(28,.und),(29,.und),(30,.und),(31,.und),(32,.und),(33,.und),(34,.und),(35,.und),(36,.und),(37,.und),(38,.und),(39,.und),(40,.und),(41,.und),(42,.und),(43,.und),(44,.und),(45,.und),(46,.und),(47,.und),(48,.und),(49,.und),(50,.und),(51,.und),(52,.und),(53,.und),(54,.und),(55,.und),(56,.und),(57,.und),(58,.und),(59,.und),(60,.und),(61,.und),(62,.und),(63,.und),(64,.und),(65,.und),(66,.und),(67,.und),(68,.und),(69,.und),(70,.und),(71,.und),(72,.und),(73,.und),(74,.und),(75,.und),(76,.und),(77,.und),(78,.und),(79,.und),(80,.und),(81,.und),(82,.und),(83,.und),(84,.und),(85,.und),(86,.und),(87,.und),(88,.und),(89,(iV x)),(90,(bV (ilt x 2))),(91,(iV y)),(92,(bV (ilt y 2))),(93,(.sl 6 n (λi=>eV (f i)))),(94,(.ref 0)),(95,(.sl 6 n (λi=>eV (f i)))),(96,(.ref 1)),(97,.und),(98,.und),(99,.und),(100,.und),(101,.und),(102,.und),(103,.und),(104,.und),(105,.und),(106,.und),(107,.und),(108,.und),(109,.und),(110,.und),(111,.und),(112,.und),(113,.und),(114,.und),(115,.und),(116,.und),(117,.und),(118,.und),(119,.und),(120,.und),(121,.und),(122,.und),(123,.und),(124,.und),(125,.und),(126,.und),(127,.und),(128,.und),(129,.und),(130,.und),(131,.und),(132,.und)]
def K2 (n:Nat) (_:Nat->E6):Lp:=⟨(bmK 133 0 [1,4,5,6,13,16]),2,bmK 133 0 [4,5],0,n+1⟩
def Gc (n:Nat) (f:Nat->E6) (u v:Nat->Int) (i:Nat) (j:Nat->V):St:=⟨(jsV 133 0 j [(1,.sl 6 n (λi=>eV (f i))),(4,iV 0),(5,iV 0),(6,nV n),(13,.ref 0),(16,nV i)]),[.row 3 1 n (λk=>iV (u k)),.row 3 1 n (λk=>iV (v k))]⟩
def Ou (_:Nat) (_:Nat->E6) (_ _:Nat->Int) (_:Nat):Ex × St:=(.ex 6,⟨(jsV 133 0 (λ_=>.und) [(4,iV 0),(5,iV 0)]),[]⟩)
def Ov (_:Nat) (_:Nat->E6) (_ _:Nat->Int) (i:Nat):Ex × St:=(.rt,⟨(jsV 133 0 (λ_=>.und) [(4,iV 45),(5,nV i)]),[]⟩)
noncomputable def DY (L:LT):St->T (Ex × St):=λst=>AG tab ⟨Aq Dh,L,Gl⟩ (A1 Try.f19 6) 6 st
section
variable (L:LT) (n:Nat) (f:Nat->E6) (u v:Nat->Int) (i:Nat)  (j:Nat->V)
include L n f u v i j
theorem AeV (h0:ilt (ofNat i) (ofNat n) = false):Aj (DY L) (K2 n f) (Gc n f u v i j) = some ((.ex 6),⟨(jsV 133 0 (λ_=>.und) [(4,(iV 0)),(5,(iV 0))]),[]⟩):=Aa [false] [ilt (ofNat i) (ofNat n)] (by kernel_rfl) (by simp only [h0] <;> rfl)
theorem AeX (h0:ilt (ofNat i) (ofNat n) = true) (h1:Af (ile 0 (ofNat i)) (ilt (ofNat i) (ofNat n)) = true) (h14:nlt i n = true) (h2:A4 n n = true) (h3:Ai n = true) (h4:ilt 12 (Eo n u (λi=>bor (Ah false) (isW (f i))) (u i)) = false):Aj (DY L) (K2 n f) (Gc n f u v i j) = some (.nm,⟨(jsV 133 0 (λ_=>.und) [(1,(.sl 6 n (λi=>eV (f i)))),(4,(iV 0)),(5,(iV 0)),(6,(nV n)),(13,(.ref 0)),(16,(iV (wr .i64 (Ae (ofNat i) 1))))]),[.row 3 1 n (λk=>iV (u k)),.row 3 1 n (λk=>iV (v k))]⟩):=Aa (bbK 8 127) [ilt (ofNat i) (ofNat n),Af (ile 0 (ofNat i)) (ilt (ofNat i) (ofNat n)),nlt i n,Ay n (λ_=>true),Ay n (λ_=>true),A4 n n,Ai n,ilt 12 (Eo n u (λi=>bor (Ah false) (isW (f i))) (u i))] (by kernel_rfl) (by simp only [h1] <;> simp only [*,Ax] <;> rfl)
theorem AeW (h0:ilt (ofNat i) (ofNat n) = true) (h1:Af (ile 0 (ofNat i)) (ilt (ofNat i) (ofNat n)) = true) (h14:nlt i n = true) (h2:A4 n n = true) (h3:Ai n = true) (h4:ilt 12 (Eo n u (λi=>bor (Ah false) (isW (f i))) (u i)) = true):Aj (DY L) (K2 n f) (Gc n f u v i j) = some (.rt,⟨(jsV 133 0 (λ_=>.und) [(4,(iV 45)),(5,(nV i))]),[]⟩):=Aa (bbK 8 255) [ilt (ofNat i) (ofNat n),Af (ile 0 (ofNat i)) (ilt (ofNat i) (ofNat n)),nlt i n,Ay n (λ_=>true),Ay n (λ_=>true),A4 n n,Ai n,ilt 12 (Eo n u (λi=>bor (Ah false) (isW (f i))) (u i))] (by kernel_rfl) (by simp only [h1] <;> simp only [*,Ax] <;> rfl)
end
def MH (_:Nat) (_:Nat->E6) (_ _:Int) (_ _:Nat) (_ _:Nat->Int) (_:Nat):Nat->V:=lkV A9 [(0,.und),(2,.und),(3,.und),(7,.und),(8,.und),(9,.und),(10,.und),(11,.und),(12,.und),(14,.und),(15,.und),(17,.und),(18,.und),(19,.und),(20,.und),(21,.und),(22,.und),(23,.und),(24,.und),(25,.und),(26,.und),(27,.und),(28,.und),(29,.und),(30,.und),(31,.und),(32,.und),(33,.und),(34,.und),(35,.und),(36,.und),(37,.und),(38,.und),(39,.und),(40,.und),(41,.und),(42,.und),(43,.und),(44,.und),(45,.und),(46,.und),(47,.und),(48,.und),(49,.und),(50,.und),(51,.und),(52,.und),(53,.und),(54,.und),(55,.und),(56,.und),(57,.und),(58,.und),(59,.und),(60,.und),(61,.und),(62,.und),(63,.und),(64,.und),(65,.und),(66,.und),(67,.und),(68,.und),(69,.und),(70,.und),(71,.und),(72,.und),(73,.und),(74,.und),(75,.und),(76,.und),(77,.und),(78,.und),(79,.und),(80,.und),(81,.und),(82,.und),(83,.und),(84,.und),(85,.und),(86,.und),(87,.und),(88,.und),(89,.und),(90,.und),(91,.und),(92,.und),(93,.und),(94,.und),(95,.und),(96,.und),(97,.und),(98,.und),(99,.und),(100,.und),(101,.und),(102,.und),(103,.und),(104,.und),(105,.und),(106,.und),(107,.und),(108,.und),(109,.und),(110,.und),(111,.und),(112,.und),(113,.und),(114,.und),(115,.und),(116,.und),(117,.und),(118,.und),(119,.und),(120,.und),(121,.und),(122,.und),(123,.und),(124,.und),(125,.und),(126,.und),(127,.und),(128,.und),(129,.und),(130,.und),(131,.und),(132,.und)]
section
variable (L:LT) (p0:PT) (n:Nat) (f:Nat->E6) (x y:Int) (i:Nat)
include L p0 n f x y i
theorem Adt (h0:ilt (ofNat n) 2 = false) (h1:ilt 16 (ofNat n) = false) (hp0:p0 (BA (onP 0 p0 (Re n f x y i) L)) (Db n f 0 0 0 (Fs n f )) = true):(A2 (An tab ⟨Aq Dh,onP 0 p0 (Re n f x y i) L,Gl⟩ Try.f19 [iV 1,A3 n f] [])).sem = some ((.tup [iV 30,nV i]),[]):=Aa (bbK 9 256) ((λc0 c1=>[c0,c0,c0,false,c1,c1,c1,ilt 16 (ofNat n),p0 (BA (onP 0 p0 (Re n f x y i) L)) (Db n f 0 0 0 (Fs n f ))]) (Ah (ieq 1 1)) (ilt (ofNat n) 2)) (by kernel_rfl) (by simp only [hp0] <;> simp only [h0,h1] <;> rfl)
theorem Ads (h0:ilt (ofNat n) 2 = false) (h1:ilt 16 (ofNat n) = false) (hp0:p0 (BA (onP 0 p0 (Rd n f x y i) L)) (Db n f 0 0 0 (Fs n f )) = true):(A2 (An tab ⟨Aq Dh,onP 0 p0 (Rd n f x y i) L,Gl⟩ Try.f19 [iV 1,A3 n f] [])).sem = some ((.tup [iV 5,nV i]),[]):=Aa (bbK 9 256) ((λc0 c1=>[c0,c0,c0,false,c1,c1,c1,ilt 16 (ofNat n),p0 (BA (onP 0 p0 (Rd n f x y i) L)) (Db n f 0 0 0 (Fs n f ))]) (Ah (ieq 1 1)) (ilt (ofNat n) 2)) (by kernel_rfl) (by simp only [hp0] <;> simp only [h0,h1] <;> rfl)
end
section
variable (L:LT) (p0:PT) (p2:PT) (n:Nat) (f:Nat->E6) (x y:Int) (i:Nat) (i2:Nat)
include L p0 p2 n f x y i i2
theorem Adr (h0:ilt (ofNat n) 2 = false) (h1:ilt 16 (ofNat n) = false) (hp0:p0 (BA (onP 0 p0 (Cs n f x y i) (onP 2 p2 (Hg n f x y i2) L))) (Db n f 0 0 0 (Fs n f )) = true) (hp2:p2 (BI (onP 0 p0 (Cs n f x y i) (onP 2 p2 (Hg n f x y i2) L))) (C7 n f x y 0 (DG n f x y i)) = true):(A2 (An tab ⟨Aq Dh,onP 0 p0 (Cs n f x y i) (onP 2 p2 (Hg n f x y i2) L),Gl⟩ Try.f19 [iV 1,A3 n f] [])).sem = some ((.tup [iV 41,nV i2]),[]):=Aa (bbK 10 768) ((λc0 c1=>[c0,c0,c0,false,c1,c1,c1,ilt 16 (ofNat n),p0 (BA (onP 0 p0 (Cs n f x y i) (onP 2 p2 (Hg n f x y i2) L))) (Db n f 0 0 0 (Fs n f )),p2 (BI (onP 0 p0 (Cs n f x y i) (onP 2 p2 (Hg n f x y i2) L))) (C7 n f x y 0 (DG n f x y i))]) (Ah (ieq 1 1)) (ilt (ofNat n) 2)) (by kernel_rfl) (by simp only [hp0,hp2] <;> simp only [h0,h1] <;> rfl)
theorem Adq (h0:ilt (ofNat n) 2 = false) (h1:ilt 16 (ofNat n) = false) (h2:ilt x 2 = true) (hp0:p0 (BA (onP 0 p0 (Cs n f x y i) (onP 2 p2 (BV n f x y i2) L))) (Db n f 0 0 0 (Fs n f )) = true) (hp2:p2 (BI (onP 0 p0 (Cs n f x y i) (onP 2 p2 (BV n f x y i2) L))) (C7 n f x y 0 (DG n f x y i)) = true):(A2 (An tab ⟨Aq Dh,onP 0 p0 (Cs n f x y i) (onP 2 p2 (BV n f x y i2) L),Gl⟩ Try.f19 [iV 1,A3 n f] [])).sem = some ((.tup [iV 42,iV 0]),[]):=Aa (bbK 11 1792) ((λc0 c1=>[c0,c0,c0,false,c1,c1,c1,ilt 16 (ofNat n),p0 (BA (onP 0 p0 (Cs n f x y i) (onP 2 p2 (BV n f x y i2) L))) (Db n f 0 0 0 (Fs n f )),p2 (BI (onP 0 p0 (Cs n f x y i) (onP 2 p2 (BV n f x y i2) L))) (C7 n f x y 0 (DG n f x y i)),ilt x 2]) (Ah (ieq 1 1)) (ilt (ofNat n) 2)) (by kernel_rfl) (by simp only [hp0,hp2] <;> simp only [*] <;> rfl)
theorem Adn (h0:ilt (ofNat n) 2 = false) (h1:ilt 16 (ofNat n) = false) (h2:ilt x 2 = false) (h3:ilt y 2 = true) (hp0:p0 (BA (onP 0 p0 (Cs n f x y i) (onP 2 p2 (BV n f x y i2) L))) (Db n f 0 0 0 (Fs n f )) = true) (hp2:p2 (BI (onP 0 p0 (Cs n f x y i) (onP 2 p2 (BV n f x y i2) L))) (C7 n f x y 0 (DG n f x y i)) = true):(A2 (An tab ⟨Aq Dh,onP 0 p0 (Cs n f x y i) (onP 2 p2 (BV n f x y i2) L),Gl⟩ Try.f19 [iV 1,A3 n f] [])).sem = some ((.tup [iV 43,iV 0]),[]):=Aa (bbK 12 2816) ((λc0 c1=>[c0,c0,c0,false,c1,c1,c1,ilt 16 (ofNat n),p0 (BA (onP 0 p0 (Cs n f x y i) (onP 2 p2 (BV n f x y i2) L))) (Db n f 0 0 0 (Fs n f )),p2 (BI (onP 0 p0 (Cs n f x y i) (onP 2 p2 (BV n f x y i2) L))) (C7 n f x y 0 (DG n f x y i)),ilt x 2,ilt y 2]) (Ah (ieq 1 1)) (ilt (ofNat n) 2)) (by kernel_rfl) (by simp only [hp0,hp2] <;> simp only [*] <;> rfl)
end
abbrev pO (n:Nat) (f:Nat->E6):Nat->Int:=λk=>Av (λk=>As (f k)) n k
abbrev pM (n:Nat) (f:Nat->E6):Nat->Int:=λk=>Av (λk=>Ar (f k)) n k
noncomputable abbrev Lu (L:LT) (p0:PT) (p2:PT) (p4:PT) (n:Nat) (f:Nat->E6) (x:Int) (y:Int) (i:Nat) (i2:Nat) (i4:Nat):LT:=onP 0 p0 (Cs n f x y i) (onP 2 p2 (BV n f x y i2) (onP 4 p4 (Oy n f (pO n f) (pM n f) i4) L))
theorem Adm (L:LT) (p0:PT) (p2:PT) (p4:PT) (n:Nat) (f:Nat->E6) (x y:Int) (i:Nat) (i2 i4:Nat) (h0:ilt (ofNat n) 2 = false) (h1:ilt 16 (ofNat n) = false) (h2:ilt x 2 = false) (h3:ilt y 2 = false) (h4:AN n = true) (hp0:p0 (BA (Lu L p0 p2 p4 n f x y i i2 i4)) (Db n f 0 0 0 (Fs n f )) = true) (hp2:p2 (BI (Lu L p0 p2 p4 n f x y i i2 i4)) (C7 n f x y 0 (DG n f x y i)) = true) (hp4:p4 (CE (Lu L p0 p2 p4 n f x y i i2 i4)) (Ef n f (pO n f) (pM n f) 0 (Jt n f x y i i2)) = true):(A2 (An tab ⟨Aq Dh,onP 0 p0 (Cs n f x y i) (onP 2 p2 (BV n f x y i2) (onP 4 p4 (Oy n f (pO n f) (pM n f) i4) L)),Gl⟩ Try.f19 [iV 1,A3 n f] [])).sem = some ((.tup [iV 44,nV i4]),[]):=Aa (bbK 17 127744) ((λc0 c1 c2 c3=>[c0,c0,c0,false,c1,c1,c1,ilt 16 (ofNat n),p0 (BA (Lu L p0 p2 p4 n f x y i i2 i4)) (Db n f 0 0 0 (Fs n f )),p2 (BI (Lu L p0 p2 p4 n f x y i i2 i4)) (C7 n f x y 0 (DG n f x y i)),ilt x 2,ilt y 2,c2,c3,c2,c3,p4 (CE (Lu L p0 p2 p4 n f x y i i2 i4)) (Ef n f (pO n f) (pM n f) 0 (Jt n f x y i i2))]) (Ah (ieq 1 1)) (ilt (ofNat n) 2) (Ay n (λ_=>true)) (AN n)) (by kernel_rfl) (by simp only [hp0,hp2,hp4] <;> simp only [*,Ax] <;> rfl)
section
variable (L:LT) (p0:PT) (p2:PT) (p4:PT) (p6:PT) (n:Nat) (f:Nat->E6) (x y:Int) (i:Nat) (i2 i4 i6:Nat)
include L p0 p2 p4 p6 n f x y i i2 i4 i6
noncomputable abbrev Iz (L:LT) (p0:PT) (p2:PT) (p4:PT) (p6:PT) (n:Nat) (f:Nat->E6) (x:Int) (y:Int) (i:Nat) (i2:Nat) (i4:Nat) (i6:Nat):LT:=onP 0 p0 (Cs n f x y i) (onP 2 p2 (BV n f x y i2) (onP 4 p4 (IF n f (pO n f) (pM n f) i4) (onP 6 p6 (Ov n f (pO n f) (pM n f) i6) L)))
theorem Adu (h0:ilt (ofNat n) 2 = false) (h1:ilt 16 (ofNat n) = false) (h2:ilt x 2 = false) (h3:ilt y 2 = false) (h4:AN n = true) (hp0:p0 (BA (Iz L p0 p2 p4 p6 n f x y i i2 i4 i6)) (Db n f 0 0 0 (Fs n f )) = true) (hp2:p2 (BI (Iz L p0 p2 p4 p6 n f x y i i2 i4 i6)) (C7 n f x y 0 (DG n f x y i)) = true) (hp4:p4 (CE (Iz L p0 p2 p4 p6 n f x y i i2 i4 i6)) (Ef n f (pO n f) (pM n f) 0 (Jt n f x y i i2)) = true) (hp6:p6 (DY (Iz L p0 p2 p4 p6 n f x y i i2 i4 i6)) (Gc n f (pO n f) (pM n f) 0 (MH n f x y i i2 (pO n f) (pM n f) i4)) = true):(A2 (An tab ⟨Aq Dh,onP 0 p0 (Cs n f x y i) (onP 2 p2 (BV n f x y i2) (onP 4 p4 (IF n f (pO n f) (pM n f) i4) (onP 6 p6 (Ov n f (pO n f) (pM n f) i6) L))),Gl⟩ Try.f19 [iV 1,A3 n f] [])).sem = some ((.tup [iV 45,nV i6]),[]):=Aa (bbK 18 258816) ((λc0 c1 c2 c3=>[c0,c0,c0,false,c1,c1,c1,ilt 16 (ofNat n),p0 (BA (Iz L p0 p2 p4 p6 n f x y i i2 i4 i6)) (Db n f 0 0 0 (Fs n f )),p2 (BI (Iz L p0 p2 p4 p6 n f x y i i2 i4 i6)) (C7 n f x y 0 (DG n f x y i)),ilt x 2,ilt y 2,c2,c3,c2,c3,p4 (CE (Iz L p0 p2 p4 p6 n f x y i i2 i4 i6)) (Ef n f (pO n f) (pM n f) 0 (Jt n f x y i i2)),p6 (DY (Iz L p0 p2 p4 p6 n f x y i i2 i4 i6)) (Gc n f (pO n f) (pM n f) 0 (MH n f x y i i2 (pO n f) (pM n f) i4))]) (Ah (ieq 1 1)) (ilt (ofNat n) 2) (Ay n (λ_=>true)) (AN n)) (by kernel_rfl) (by simp only [hp0,hp2,hp4,hp6] <;> simp only [*,Ax] <;> rfl)
noncomputable abbrev Iy (L:LT) (p0:PT) (p2:PT) (p4:PT) (p6:PT) (n:Nat) (f:Nat->E6) (x:Int) (y:Int) (i:Nat) (i2:Nat) (i4:Nat) (i6:Nat):LT:=onP 0 p0 (Cs n f x y i) (onP 2 p2 (BV n f x y i2) (onP 4 p4 (IF n f (pO n f) (pM n f) i4) (onP 6 p6 (Ou n f (pO n f) (pM n f) i6) L)))
theorem Adl (h0:ilt (ofNat n) 2 = false) (h1:ilt 16 (ofNat n) = false) (h2:ilt x 2 = false) (h3:ilt y 2 = false) (h4:AN n = true) (hp0:p0 (BA (Iy L p0 p2 p4 p6 n f x y i i2 i4 i6)) (Db n f 0 0 0 (Fs n f )) = true) (hp2:p2 (BI (Iy L p0 p2 p4 p6 n f x y i i2 i4 i6)) (C7 n f x y 0 (DG n f x y i)) = true) (hp4:p4 (CE (Iy L p0 p2 p4 p6 n f x y i i2 i4 i6)) (Ef n f (pO n f) (pM n f) 0 (Jt n f x y i i2)) = true) (hp6:p6 (DY (Iy L p0 p2 p4 p6 n f x y i i2 i4 i6)) (Gc n f (pO n f) (pM n f) 0 (MH n f x y i i2 (pO n f) (pM n f) i4)) = true):(A2 (An tab ⟨Aq Dh,onP 0 p0 (Cs n f x y i) (onP 2 p2 (BV n f x y i2) (onP 4 p4 (IF n f (pO n f) (pM n f) i4) (onP 6 p6 (Ou n f (pO n f) (pM n f) i6) L))),Gl⟩ Try.f19 [iV 1,A3 n f] [])).sem = some ((.tup [iV 0,iV 0]),[]):=Aa (bbK 18 258816) ((λc0 c1 c2 c3=>[c0,c0,c0,false,c1,c1,c1,ilt 16 (ofNat n),p0 (BA (Iy L p0 p2 p4 p6 n f x y i i2 i4 i6)) (Db n f 0 0 0 (Fs n f )),p2 (BI (Iy L p0 p2 p4 p6 n f x y i i2 i4 i6)) (C7 n f x y 0 (DG n f x y i)),ilt x 2,ilt y 2,c2,c3,c2,c3,p4 (CE (Iy L p0 p2 p4 p6 n f x y i i2 i4 i6)) (Ef n f (pO n f) (pM n f) 0 (Jt n f x y i i2)),p6 (DY (Iy L p0 p2 p4 p6 n f x y i i2 i4 i6)) (Gc n f (pO n f) (pM n f) 0 (MH n f x y i i2 (pO n f) (pM n f) i4))]) (Ah (ieq 1 1)) (ilt (ofNat n) 2) (Ay n (λ_=>true)) (AN n)) (by kernel_rfl) (by simp only [hp0,hp2,hp4,hp6] <;> simp only [*,Ax] <;> rfl)
end
section
variable (L:LT) (n:Nat) (f:Nat->E6)
include L n f
theorem Adp (h0:ilt (ofNat n) 2 = true):(A2 (An tab ⟨Aq Dh,L,Gl⟩ Try.f19 [iV 1,A3 n f] [])).sem = some ((.tup [iV 40,iV 0]),[]):=Aa (bbK 8 240) ((λc0 c1=>[c0,c0,c0,false,c1,c1,c1,true]) (Ah (ieq 1 1)) (ilt (ofNat n) 2)) (by kernel_rfl) (by simp only [h0] <;> rfl)
theorem Ado (h0:ilt (ofNat n) 2 = false) (h1:ilt 16 (ofNat n) = true):(A2 (An tab ⟨Aq Dh,L,Gl⟩ Try.f19 [iV 1,A3 n f] [])).sem = some ((.tup [iV 40,iV 0]),[]):=Aa (bbK 8 128) ((λc0 c1=>[c0,c0,c0,false,c1,c1,c1,ilt 16 (ofNat n)]) (Ah (ieq 1 1)) (ilt (ofNat n) 2)) (by kernel_rfl) (by simp only [h0,h1] <;> rfl)
end
theorem Nw (L:LT) (n:Nat) (f:Nat->E6) (hn:n <= 4611686018427387904):∀ (d i:Nat) (j:Nat->V) (q:Nat),n = i+d->d < q ->
  (A8 (BA L) (K0 n f) q (Db n f (ofNat (Ak (λk=>As (f k)) i)) (ofNat (Ak (λk=>Ar (f k)) i)) i j)).sem = some (match Bc (C6 1 f) d i with
   | none=>Cs n f (ofNat (Ak (λk=>As (f k)) n)) (ofNat (Ak (λk=>Ar (f k)) n)) n
   | some t=>match ieq (DC 1 (f t)) 0 with
    | false=>Re n f (ofNat (Ak (λk=>As (f k)) t)) (ofNat (Ak (λk=>Ar (f k)) t)) t
    | true=>Rd n f (ofNat (Ak (λk=>As (f k)) t)) (ofNat (Ak (λk=>Ar (f k)) t)) t)
 | 0,i,j,q+1,h,_=>by
  have:n = i:=by omega
  subst this
  exact Ad (AfY L n f (ofNat (Ak (λk=>As (f k)) n)) (ofNat (Ak (λk=>Ar (f k)) n)) n j (AF (Nat.le_refl _)))
 | d+1,i,j,q+1,h,h2=>by
  have hl:i < n:=by omega
  have ho:=Bd (λk=>As (f k)) i
  have hm:=Bd (λk=>Ar (f k)) i
  cases c1:ieq (AM (f i)) 0 with
  | false =>
   have c1':ieq (DC 1 (f i)) 0 = false:=c1
   rw [Cb (show C6 1 f i = true by rw [C6,c1']; rfl)]
   simp only [c1']
   exact Ad (AfX L n f (ofNat (Ak (λk=>As (f k)) i)) (ofNat (Ak (λk=>Ar (f k)) i)) i j (ofNat_lt hl) (Ap hl) c1)
  | true =>
   have c1':ieq (DC 1 (f i)) 0 = true:=c1
   cases c2:DL 1 (f i) with
   | false =>
    rw [Cb (show C6 1 f i = true by rw [C6,c1',c2]; rfl)]
    simp only [c1']
    exact Ad (AfW L n f (ofNat (Ak (λk=>As (f k)) i)) (ofNat (Ak (λk=>Ar (f k)) i)) i j (ofNat_lt hl) (Ap hl) c1 c2)
   | true =>
    cases c3:As (f i) with
    | false =>
     cases c4:Ar (f i) with
     | false =>
      rw [B1 (show C6 1 f i = false by rw [C6,show ieq (DC 1 (f i)) 0 = true from c1,c2]; rfl),Ad (Abj L n f (ofNat (Ak (λk=>As (f k)) i)) (ofNat (Ak (λk=>Ar (f k)) i)) i j (ofNat_lt hl) (Ap hl) c1 c2 c3 c4),Aw,Ao hl hn,<- B0 (p:=(λk=>As (f k))) c3,<- B0 (p:=(λk=>Ar (f k))) c4]
      exact Nw L n f hn d (i+1) (λ_=>.und) q (by omega) (by omega)
     | true =>
      rw [B1 (show C6 1 f i = false by rw [C6,show ieq (DC 1 (f i)) 0 = true from c1,c2]; rfl),Ad (Abk L n f (ofNat (Ak (λk=>As (f k)) i)) (ofNat (Ak (λk=>Ar (f k)) i)) i j (ofNat_lt hl) (Ap hl) c1 c2 c3 c4),Aw,Ao hl hn,Ao (show Ak (λk=>Ar (f k)) i < n by omega) hn,<- B0 (p:=(λk=>As (f k))) c3,<- Bk (p:=(λk=>Ar (f k))) c4]
      exact Nw L n f hn d (i+1) (λ_=>.und) q (by omega) (by omega)
    | true =>
     cases c4:Ar (f i) with
     | false =>
      rw [B1 (show C6 1 f i = false by rw [C6,show ieq (DC 1 (f i)) 0 = true from c1,c2]; rfl),Ad (Abh L n f (ofNat (Ak (λk=>As (f k)) i)) (ofNat (Ak (λk=>Ar (f k)) i)) i j (ofNat_lt hl) (Ap hl) c1 c2 c3 c4),Aw,Ao hl hn,Ao (show Ak (λk=>As (f k)) i < n by omega) hn,<- Bk (p:=(λk=>As (f k))) c3,<- B0 (p:=(λk=>Ar (f k))) c4]
      exact Nw L n f hn d (i+1) (λ_=>.und) q (by omega) (by omega)
     | true =>
      rw [B1 (show C6 1 f i = false by rw [C6,show ieq (DC 1 (f i)) 0 = true from c1,c2]; rfl),Ad (Abi L n f (ofNat (Ak (λk=>As (f k)) i)) (ofNat (Ak (λk=>Ar (f k)) i)) i j (ofNat_lt hl) (Ap hl) c1 c2 c3 c4),Aw,Ao hl hn,Ao (show Ak (λk=>As (f k)) i < n by omega) hn,Ao (show Ak (λk=>Ar (f k)) i < n by omega) hn,<- Bk (p:=(λk=>As (f k))) c3,<- Bk (p:=(λk=>Ar (f k))) c4]
      exact Nw L n f hn d (i+1) (λ_=>.und) q (by omega) (by omega)
theorem Vn (L:LT) (n:Nat) (f:Nat->E6) (x y:Int) (hn:n <= 4611686018427387904):∀ (d i:Nat) (j:Nat->V) (q:Nat),n = i+d->d < q ->
  (A8 (BI L) (K4 n f) q (C7 n f x y i j)).sem = some (match Bc (Fq n f) d i with
   | none=>BV n f x y 0
   | some t=>Hg n f x y t)
 | 0,i,j,q+1,h,_=>by
  have:n = i:=by omega
  subst this
  exact Ad (AfR L n f x y n j (AF (Nat.le_refl _)))
 | d+1,i,j,q+1,h,h2=>by
  have hl:i < n:=by omega
  have e1:=ND hl hn
  have hb:Af (ile 0 (Ab (wr .i64 (Ae (ofNat i) 1)) (ofNat n))) (ilt (Ab (wr .i64 (Ae (ofNat i) 1)) (ofNat n)) (ofNat n)) = true:=by
   rw [e1]; exact Ap (Nat.mod_lt _ (by omega))
  have e2:toN (ofNat ((i+1) % n)) = (i+1) % n:=rfl
  cases c1:ieq (f i).dst (f ((i+1) % n)).src with
  | false =>
   rw [Cb (show Fq n f i = true by rw [Fq,c1]; rfl)]
   exact Ad (AfQ L n f x y i j (ofNat_lt hl) (Ap hl) (WO hl) hb (by rw [e1,e2]; exact c1))
  | true =>
   rw [B1 (show Fq n f i = false by rw [Fq,c1]; rfl),Ad (AfP L n f x y i j (ofNat_lt hl) (Ap hl) (WO hl) hb (by rw [e1,e2]; exact c1)),Aw,Ao hl hn]
   exact Vn L n f x y hn d (i+1) (λ_=>.und) q (by omega) (by omega)
theorem Qu (L:LT) (n:Nat) (f:Nat->E6) (u v:Nat->Int) (hn:n <= 4611686018427387904):∀ (d i:Nat) (j:Nat->V) (q:Nat),n = i+d->d < q ->
  (A8 (CE L) (Jn n f) q (Ef n f u v i j)).sem = some (match Bc (AH n v (λi=>isW (f i)) 2) d i with
   | none=>IF n f u v 0
   | some t=>Oy n f u v t)
 | 0,i,j,q+1,h,_=>by
  have:n = i:=by omega
  subst this
  exact Ad (Afo L n f u v n j (AF (Nat.le_refl _)))
 | d+1,i,j,q+1,h,h2=>by
  have hl:i < n:=by omega
  have hs:Ai n = true:=decide_eq_true hn
  cases c1:ieq (f i).src 2 with
  | false =>
   rw [B1 (show AH n v (λi=>isW (f i)) 2 i = false by rw [AH,isW,c1]; rfl),Ad (Afr L n f u v i j (ofNat_lt hl) (Ap hl) c1),Aw,Ao hl hn]
   exact Qu L n f u v hn d (i+1) (λ_=>.und) q (by omega) (by omega)
  | true =>
   cases c2:ilt 2 (Eo n v (λi=>(bor (Ah true) (isW (f i)))) (v i)) with
   | false =>
    rw [B1 (show AH n v (λi=>isW (f i)) 2 i = false by rw [AH,isW,c1]; exact c2),Ad (Afq L n f u v i j (ofNat_lt hl) (Ap hl) c1 (show nlt i n = true by simpa [nlt] using hl) (Nat.beq_refl n) hs c2),Aw,Ao hl hn]
    exact Qu L n f u v hn d (i+1) (λ_=>.und) q (by omega) (by omega)
   | true =>
    rw [Cb (show AH n v (λi=>isW (f i)) 2 i = true by rw [AH,isW,c1]; exact c2)]
    exact Ad (Afp L n f u v i j (ofNat_lt hl) (Ap hl) c1 (show nlt i n = true by simpa [nlt] using hl) (Nat.beq_refl n) hs c2)
theorem Vl (L:LT) (n:Nat) (f:Nat->E6) (u v:Nat->Int) (hn:n <= 4611686018427387904):∀ (d i:Nat) (j:Nat->V) (q:Nat),n = i+d->d < q ->
  (A8 (DY L) (K2 n f) q (Gc n f u v i j)).sem = some (match Bc (AH n u (λ_=>true) 12) d i with
   | none=>Ou n f u v 0
   | some t=>Ov n f u v t)
 | 0,i,j,q+1,h,_=>by
  have:n = i:=by omega
  subst this
  exact Ad (AeV L n f u v n j (AF (Nat.le_refl _)))
 | d+1,i,j,q+1,h,h2=>by
  have hl:i < n:=by omega
  have hs:Ai n = true:=decide_eq_true hn
  cases c2:ilt 12 (Eo n u (λi=>(bor (Ah false) (isW (f i)))) (u i)) with
  | false =>
   rw [B1 (show AH n u (λ_=>true) 12 i = false from c2),Ad (AeX L n f u v i j (ofNat_lt hl) (Ap hl) (show nlt i n = true by simpa [nlt] using hl) (Nat.beq_refl n) hs c2),Aw,Ao hl hn]
   exact Vl L n f u v hn d (i+1) (λ_=>.und) q (by omega) (by omega)
  | true =>
   rw [Cb (show AH n u (λ_=>true) 12 i = true from c2)]
   exact Ad (AeW L n f u v i j (ofNat_lt hl) (Ap hl) (show nlt i n = true by simpa [nlt] using hl) (Nat.beq_refl n) hs c2)
def QB (n:Nat) (f:Nat->E6):List (Nat × Lp):=[(0,K0 n f),(2,K4 n f),(4,Jn n f),(6,K2 n f)]
theorem Aa6 (n:Nat) (f:Nat->E6) (hF:AN n = true) :
  (A2 (An tab (AT Gl Dh (QB n f)) Try.f19 [iV 1,A3 n f] [])).sem = some (.tup [iV (J9 1 n f).1,iV (J9 1 n f).2],[]):=by
 have hL:=AL (QB n f)
 have hn:=CQ (Fl hF)
 unfold J9
 cases hA:ilt (ofNat n) 2 with
 | true=>exact Adp _ n f hA
 | false =>
  cases hB:ilt 16 (ofNat n) with
  | true=>exact Ado _ n f hA hB
  | false =>
   have h0:=λL j=>Nw L n f hn n 0 j (n+1) (by omega) (by omega)
   have h2:=λL j=>Vn L n f (ofNat (Ak (λk=>As (f k)) n)) (ofNat (Ak (λk=>Ar (f k)) n)) hn n 0 j (n+1) (by omega) (by omega)
   have h4:=λL j=>Qu L n f (pO n f) (pM n f) hn n 0 j (n+1) (by omega) (by omega)
   have h6:=λL j=>Vl L n f (pO n f) (pM n f) hn n 0 j (n+1) (by omega) (by omega)
   show _ = some (V.tup [iV (match D2 1 n f,ieq (D2 1 n f).1 0 with | r,false=>r | _,true=>EX n f).1,iV (match D2 1 n f,ieq (D2 1 n f).1 0 with | r,false=>r | _,true=>EX n f).2],[])
   unfold D2
   cases c1:Bc (C6 1 f) n 0 with
   | some t =>
    rw [c1] at h0
    cases c2:ieq (DC 1 (f t)) 0 with
    | false =>
     simp only [c2] at h0 ⊢
     exact A6 (Az hL hL) _ (Adt _ _ n f (ofNat (Ak (λk=>As (f k)) t)) (ofNat (Ak (λk=>Ar (f k)) t)) t hA hB (Am (h0 _ _)))
    | true =>
     simp only [c2] at h0 ⊢
     exact A6 (Az hL hL) _ (Ads _ _ n f (ofNat (Ak (λk=>As (f k)) t)) (ofNat (Ak (λk=>Ar (f k)) t)) t hA hB (Am (h0 _ _)))
   | none =>
    rw [c1] at h0
    cases c2:Bc (Fq n f) n 0 with
    | some t =>
     rw [c2] at h2
     exact A6 (Az (Az hL hL) hL) _ (Adr _ _ _ n f (ofNat (Ak (λk=>As (f k)) n)) (ofNat (Ak (λk=>Ar (f k)) n)) n t hA hB (Am (h0 _ _)) (Am (h2 _ _)))
    | none =>
     rw [c2] at h2
     show _ = some (V.tup [iV (EX n f).1,iV (EX n f).2],[])
     unfold EX
     cases c3:ilt (En n f) 2 with
     | true=>exact A6 (Az (Az hL hL) hL) _ (Adq _ _ _ n f (ofNat (Ak (λk=>As (f k)) n)) (ofNat (Ak (λk=>Ar (f k)) n)) n 0 hA hB c3 (Am (h0 _ _)) (Am (h2 _ _)))
     | false =>
      cases c4:ilt (Fn n f) 2 with
      | true=>exact A6 (Az (Az hL hL) hL) _ (Adn _ _ _ n f (ofNat (Ak (λk=>As (f k)) n)) (ofNat (Ak (λk=>Ar (f k)) n)) n 0 hA hB c3 c4 (Am (h0 _ _)) (Am (h2 _ _)))
      | false =>
       show _ = some (V.tup [iV (II n f).1,iV (II n f).2],[])
       unfold II crR
       cases c5:Bc (AH n (Av (λk=>Ar (f k)) n) (λi=>isW (f i)) 2) n 0 with
       | some t =>
        rw [show (Bc (AH n (pM n f) (λi=>isW (f i)) 2) n 0) = some t from c5] at h4
        exact A6 (Az (Az (Az hL hL) hL) hL) _ (Adm _ _ _ _ n f (ofNat (Ak (λk=>As (f k)) n)) (ofNat (Ak (λk=>Ar (f k)) n)) n 0 t hA hB c3 c4 hF (Am (h0 _ _)) (Am (h2 _ _)) (Am (h4 _ _)))
       | none =>
        rw [show (Bc (AH n (pM n f) (λi=>isW (f i)) 2) n 0) = none from c5] at h4
        cases c6:Bc (AH n (Av (λk=>As (f k)) n) (λ_=>true) 12) n 0 with
        | some t =>
         rw [show (Bc (AH n (pO n f) (λ_=>true) 12) n 0) = some t from c6] at h6
         exact A6 (Az (Az (Az (Az hL hL) hL) hL) hL) _ (Adu _ _ _ _ _ n f (ofNat (Ak (λk=>As (f k)) n)) (ofNat (Ak (λk=>Ar (f k)) n)) n 0 0 t hA hB c3 c4 hF (Am (h0 _ _)) (Am (h2 _ _)) (Am (h4 _ _)) (Am (h6 _ _)))
        | none =>
         rw [show (Bc (AH n (pO n f) (λ_=>true) 12) n 0) = none from c6] at h6
         exact A6 (Az (Az (Az (Az hL hL) hL) hL) hL) _ (Adl _ _ _ _ _ n f (ofNat (Ak (λk=>As (f k)) n)) (ofNat (Ak (λk=>Ar (f k)) n)) n 0 0 0 hA hB c3 c4 hF (Am (h0 _ _)) (Am (h2 _ _)) (Am (h4 _ _)) (Am (h6 _ _)))
def K1 (n:Nat) (_:Nat->E6):Lp:=⟨(bmK 133 0 [0,1,4,5,6,7,8,9]),0,bmK 133 0 [1,4,5,6,7,8],0,n+1⟩
def Dc (n:Nat) (f:Nat->E6) (x y:Int) (i:Nat) (j:Nat->V):St:=⟨(jsV 133 0 j [(0,iV 2),(1,.sl 6 n (λi=>eV (f i))),(4,iV 0),(5,iV 0),(6,nV n),(7,iV x),(8,iV y),(9,nV i)]),[]⟩
def Ct (n:Nat) (f:Nat->E6) (x y:Int) (_:Nat):Ex × St:=(.ex 0,⟨(jsV 133 0 (λ_=>.und) [(1,.sl 6 n (λi=>eV (f i))),(4,iV 0),(5,iV 0),(6,nV n),(7,iV x),(8,iV y)]),[]⟩)
def Rg (n:Nat) (f:Nat->E6) (x y:Int) (i:Nat):Ex × St:=(.rt,⟨(jsV 133 0 (λ_=>.und) [(1,.sl 6 n (λi=>eV (f i))),(4,iV 30),(5,nV i),(6,nV n),(7,iV x),(8,iV y)]),[]⟩)
def Rf (n:Nat) (f:Nat->E6) (x y:Int) (i:Nat):Ex × St:=(.rt,⟨(jsV 133 0 (λ_=>.und) [(1,.sl 6 n (λi=>eV (f i))),(4,iV 5),(5,nV i),(6,nV n),(7,iV x),(8,iV y)]),[]⟩)
noncomputable def BB (L:LT):St->T (Ex × St):=λst=>AG tab ⟨Aq Dh,L,Gl⟩ (A1 Try.f19 0) 0 st
section
variable (L:LT) (n:Nat) (f:Nat->E6) (x y:Int) (i:Nat)  (j:Nat->V)
include L n f x y i j
theorem Agb (h0:ilt (ofNat i) (ofNat n) = false):Aj (BB L) (K1 n f) (Dc n f x y i j) = some ((.ex 0),⟨(jsV 133 0 (λ_=>.und) [(1,(.sl 6 n (λi=>eV (f i)))),(4,(iV 0)),(5,(iV 0)),(6,(nV n)),(7,(iV x)),(8,(iV y))]),[]⟩):=Aa [false] [ilt (ofNat i) (ofNat n)] (by kernel_rfl) (by simp only [h0] <;> rfl)
theorem Aga (h0:ilt (ofNat i) (ofNat n) = true) (h1:Af (ile 0 (ofNat i)) (ilt (ofNat i) (ofNat n)) = true) (h2:ieq (AM (f i)) 0 = false):Aj (BB L) (K1 n f) (Dc n f x y i j) = some (.rt,⟨(jsV 133 0 (λ_=>.und) [(1,(.sl 6 n (λi=>eV (f i)))),(4,(iV 30)),(5,(nV i)),(6,(nV n)),(7,(iV x)),(8,(iV y))]),[]⟩):=Aa [true,true,true] [ilt (ofNat i) (ofNat n),Af (ile 0 (ofNat i)) (ilt (ofNat i) (ofNat n)),Ah (ieq (AM (f i)) 0)] (by kernel_rfl) (by simp only [h1] <;> simp only [h0,h2] <;> rfl)
theorem AfZ (h0:ilt (ofNat i) (ofNat n) = true) (h1:Af (ile 0 (ofNat i)) (ilt (ofNat i) (ofNat n)) = true) (h2:ieq (AM (f i)) 0 = true) (h3:DL 2 (f i) = false):Aj (BB L) (K1 n f) (Dc n f x y i j) = some (.rt,⟨(jsV 133 0 (λ_=>.und) [(1,(.sl 6 n (λi=>eV (f i)))),(4,(iV 5)),(5,(nV i)),(6,(nV n)),(7,(iV x)),(8,(iV y))]),[]⟩):=Aa [true,true,false,true,true] ((λc0=>[ilt (ofNat i) (ofNat n),c0,Ah (ieq (AM (f i)) 0),c0,Ah (DL 2 (f i))]) (Af (ile 0 (ofNat i)) (ilt (ofNat i) (ofNat n)))) (by kernel_rfl) (by simp only [h1] <;> simp only [*] <;> rfl)
theorem Abn (h0:ilt (ofNat i) (ofNat n) = true) (h1:Af (ile 0 (ofNat i)) (ilt (ofNat i) (ofNat n)) = true) (h2:ieq (AM (f i)) 0 = true) (h3:DL 2 (f i) = true) (h4:As (f i) = false) (h5:Ar (f i) = false):Aj (BB L) (K1 n f) (Dc n f x y i j) = some (.nm,⟨(jsV 133 0 (λ_=>.und) [(0,(iV 2)),(1,(.sl 6 n (λi=>eV (f i)))),(4,(iV 0)),(5,(iV 0)),(6,(nV n)),(7,(iV x)),(8,(iV y)),(9,(iV (wr .i64 (Ae (ofNat i) 1))))]),[]⟩):=Aa (bbK 9 171) ((λc0=>[ilt (ofNat i) (ofNat n),c0,Ah (ieq (AM (f i)) 0),c0,Ah (DL 2 (f i)),c0,As (f i),c0,Ar (f i)]) (Af (ile 0 (ofNat i)) (ilt (ofNat i) (ofNat n)))) (by kernel_rfl) (by simp only [h1] <;> simp only [*] <;> rfl)
theorem Abo (h0:ilt (ofNat i) (ofNat n) = true) (h1:Af (ile 0 (ofNat i)) (ilt (ofNat i) (ofNat n)) = true) (h2:ieq (AM (f i)) 0 = true) (h3:DL 2 (f i) = true) (h4:As (f i) = false) (h5:Ar (f i) = true):Aj (BB L) (K1 n f) (Dc n f x y i j) = some (.nm,⟨(jsV 133 0 (λ_=>.und) [(0,(iV 2)),(1,(.sl 6 n (λi=>eV (f i)))),(4,(iV 0)),(5,(iV 0)),(6,(nV n)),(7,(iV x)),(8,(iV (wr .i64 (Ae y 1)))),(9,(iV (wr .i64 (Ae (ofNat i) 1))))]),[]⟩):=Aa (bbK 9 427) ((λc0=>[ilt (ofNat i) (ofNat n),c0,Ah (ieq (AM (f i)) 0),c0,Ah (DL 2 (f i)),c0,As (f i),c0,Ar (f i)]) (Af (ile 0 (ofNat i)) (ilt (ofNat i) (ofNat n)))) (by kernel_rfl) (by simp only [h1] <;> simp only [*] <;> rfl)
theorem Abl (h0:ilt (ofNat i) (ofNat n) = true) (h1:Af (ile 0 (ofNat i)) (ilt (ofNat i) (ofNat n)) = true) (h2:ieq (AM (f i)) 0 = true) (h3:DL 2 (f i) = true) (h4:As (f i) = true) (h5:Ar (f i) = false):Aj (BB L) (K1 n f) (Dc n f x y i j) = some (.nm,⟨(jsV 133 0 (λ_=>.und) [(0,(iV 2)),(1,(.sl 6 n (λi=>eV (f i)))),(4,(iV 0)),(5,(iV 0)),(6,(nV n)),(7,(iV (wr .i64 (Ae x 1)))),(8,(iV y)),(9,(iV (wr .i64 (Ae (ofNat i) 1))))]),[]⟩):=Aa (bbK 9 235) ((λc0=>[ilt (ofNat i) (ofNat n),c0,Ah (ieq (AM (f i)) 0),c0,Ah (DL 2 (f i)),c0,As (f i),c0,Ar (f i)]) (Af (ile 0 (ofNat i)) (ilt (ofNat i) (ofNat n)))) (by kernel_rfl) (by simp only [h1] <;> simp only [*] <;> rfl)
theorem Abm (h0:ilt (ofNat i) (ofNat n) = true) (h1:Af (ile 0 (ofNat i)) (ilt (ofNat i) (ofNat n)) = true) (h2:ieq (AM (f i)) 0 = true) (h3:DL 2 (f i) = true) (h4:As (f i) = true) (h5:Ar (f i) = true):Aj (BB L) (K1 n f) (Dc n f x y i j) = some (.nm,⟨(jsV 133 0 (λ_=>.und) [(0,(iV 2)),(1,(.sl 6 n (λi=>eV (f i)))),(4,(iV 0)),(5,(iV 0)),(6,(nV n)),(7,(iV (wr .i64 (Ae x 1)))),(8,(iV (wr .i64 (Ae y 1)))),(9,(iV (wr .i64 (Ae (ofNat i) 1))))]),[]⟩):=Aa (bbK 9 491) ((λc0=>[ilt (ofNat i) (ofNat n),c0,Ah (ieq (AM (f i)) 0),c0,Ah (DL 2 (f i)),c0,As (f i),c0,Ar (f i)]) (Af (ile 0 (ofNat i)) (ilt (ofNat i) (ofNat n)))) (by kernel_rfl) (by simp only [h1] <;> simp only [*] <;> rfl)
end
def Ft (n:Nat) (f:Nat->E6) :Nat->V:=lkV A9 [(17,(iV 2)),(18,(bV (Ah (ieq 2 1)))),(19,(bV (Ah (ieq 2 1)))),(20,(iV 2)),(21,(bV (Ah (ieq 2 2)))),(22,(bV (Ah (ieq 2 2)))),(23,(.sl 6 n (λi=>eV (f i)))),(24,(nV n)),(25,(nV n)),(26,(bV (ilt (ofNat n) 2))),(27,(bV (ilt (ofNat n) 2))),(28,(nV n)),(29,(bV (ilt 16 (ofNat n)))),(30,(bV (ilt 16 (ofNat n))))]
def K5 (n:Nat) (_:Nat->E6):Lp:=⟨(bmK 133 0 [1,4,5,6,7,8,12]),0,bmK 133 0 [1,4,5,6,7,8],0,n+1⟩
def C8 (n:Nat) (f:Nat->E6) (x y:Int) (i:Nat) (j:Nat->V):St:=⟨(jsV 133 0 j [(1,.sl 6 n (λi=>eV (f i))),(4,iV 0),(5,iV 0),(6,nV n),(7,iV x),(8,iV y),(12,nV i)]),[]⟩
def BW (n:Nat) (f:Nat->E6) (x y:Int) (_:Nat):Ex × St:=(.ex 2,⟨(jsV 133 0 (λ_=>.und) [(1,.sl 6 n (λi=>eV (f i))),(4,iV 0),(5,iV 0),(6,nV n),(7,iV x),(8,iV y)]),[]⟩)
def Hh (n:Nat) (f:Nat->E6) (x y:Int) (i:Nat):Ex × St:=(.rt,⟨(jsV 133 0 (λ_=>.und) [(1,.sl 6 n (λi=>eV (f i))),(4,iV 41),(5,nV i),(6,nV n),(7,iV x),(8,iV y)]),[]⟩)
noncomputable def BJ (L:LT):St->T (Ex × St):=λst=>AG tab ⟨Aq Dh,L,Gl⟩ (A1 Try.f19 2) 2 st
section
variable (L:LT) (n:Nat) (f:Nat->E6) (x y:Int) (i:Nat)  (j:Nat->V)
include L n f x y i j
theorem AfU (h0:ilt (ofNat i) (ofNat n) = false):Aj (BJ L) (K5 n f) (C8 n f x y i j) = some ((.ex 2),⟨(jsV 133 0 (λ_=>.und) [(1,(.sl 6 n (λi=>eV (f i)))),(4,(iV 0)),(5,(iV 0)),(6,(nV n)),(7,(iV x)),(8,(iV y))]),[]⟩):=Aa [false] [ilt (ofNat i) (ofNat n)] (by kernel_rfl) (by simp only [h0] <;> rfl)
theorem AfT (h0:ilt (ofNat i) (ofNat n) = true) (h1:Af (ile 0 (ofNat i)) (ilt (ofNat i) (ofNat n)) = true) (h2:ieq (ofNat n) 0 = false) (h3:Af (ile 0 (Ab (wr .i64 (Ae (ofNat i) 1)) (ofNat n))) (ilt (Ab (wr .i64 (Ae (ofNat i) 1)) (ofNat n)) (ofNat n)) = true) (h4:ieq ((f i)).dst ((f (toN (Ab (wr .i64 (Ae (ofNat i) 1)) (ofNat n))))).src = false):Aj (BJ L) (K5 n f) (C8 n f x y i j) = some (.rt,⟨(jsV 133 0 (λ_=>.und) [(1,(.sl 6 n (λi=>eV (f i)))),(4,(iV 41)),(5,(nV i)),(6,(nV n)),(7,(iV x)),(8,(iV y))]),[]⟩):=Aa [true,true,false,true,true] [ilt (ofNat i) (ofNat n),Af (ile 0 (ofNat i)) (ilt (ofNat i) (ofNat n)),ieq (ofNat n) 0,Af (ile 0 (Ab (wr .i64 (Ae (ofNat i) 1)) (ofNat n))) (ilt (Ab (wr .i64 (Ae (ofNat i) 1)) (ofNat n)) (ofNat n)),Ah (ieq ((f i)).dst ((f (toN (Ab (wr .i64 (Ae (ofNat i) 1)) (ofNat n))))).src)] (by kernel_rfl) (by simp only [h1,h3] <;> simp only [*] <;> rfl)
theorem AfS (h0:ilt (ofNat i) (ofNat n) = true) (h1:Af (ile 0 (ofNat i)) (ilt (ofNat i) (ofNat n)) = true) (h2:ieq (ofNat n) 0 = false) (h3:Af (ile 0 (Ab (wr .i64 (Ae (ofNat i) 1)) (ofNat n))) (ilt (Ab (wr .i64 (Ae (ofNat i) 1)) (ofNat n)) (ofNat n)) = true) (h4:ieq ((f i)).dst ((f (toN (Ab (wr .i64 (Ae (ofNat i) 1)) (ofNat n))))).src = true):Aj (BJ L) (K5 n f) (C8 n f x y i j) = some (.nm,⟨(jsV 133 0 (λ_=>.und) [(1,(.sl 6 n (λi=>eV (f i)))),(4,(iV 0)),(5,(iV 0)),(6,(nV n)),(7,(iV x)),(8,(iV y)),(12,(iV (wr .i64 (Ae (ofNat i) 1))))]),[]⟩):=Aa [true,true,false,true,false] [ilt (ofNat i) (ofNat n),Af (ile 0 (ofNat i)) (ilt (ofNat i) (ofNat n)),ieq (ofNat n) 0,Af (ile 0 (Ab (wr .i64 (Ae (ofNat i) 1)) (ofNat n))) (ilt (Ab (wr .i64 (Ae (ofNat i) 1)) (ofNat n)) (ofNat n)),Ah (ieq ((f i)).dst ((f (toN (Ab (wr .i64 (Ae (ofNat i) 1)) (ofNat n))))).src)] (by kernel_rfl) (by simp only [h1,h3] <;> simp only [*] <;> rfl)
end
def DH (_:Nat) (_:Nat->E6) (_ _:Int) (_:Nat):Nat->V:=lkV A9 [(0,.und),(2,.und),(3,.und),(9,.und),(10,.und),(11,.und),(13,.und),(14,.und),(15,.und),(16,.und),(17,.und),(18,.und),(19,.und),(20,.und),(21,.und),(22,.und),(23,.und),(24,.und),(25,.und),(26,.und),(27,.und),(28,.und),(29,.und),(30,.und),(31,.und),(32,.und),(33,.und),(34,.und),(35,.und),(36,.und),(37,.und),(38,.und),(39,.und),(40,.und),(41,.und),(42,.und),(43,.und),(44,.und),(45,.und),(46,.und),(47,.und),(48,.und),(49,.und),(50,.und),(51,.und),(52,.und),(53,.und),(54,.und),(55,.und),(56,.und),(57,.und),(58,.und),(59,.und),(60,.und),(61,.und),(62,.und),(63,.und),(64,.und),(65,.und),(66,.und),(67,.und),(68,.und),(69,.und),(70,.und),(71,.und),(72,.und),(73,.und),(74,.und),(75,.und),(76,.und),(77,.und),(78,.und),(79,.und),(80,.und),(81,.und),(82,.und),(83,.und),(84,.und),(85,.und),(86,.und),(87,.und),(88,.und),(89,.und),(90,.und),(91,.und),(92,.und),(93,.und),(94,.und),(95,.und),(96,.und),(97,.und),(98,.und),(99,.und),(100,.und),(101,.und),(102,.und),(103,.und),(104,.und),(105,.und),(106,.und),(107,.und),(108,.und),(109,.und),(110,.und),(111,.und),(112,.und),(113,.und),(114,.und),(115,.und),(116,.und),(117,.und),(118,.und),(119,.und),(120,.und),(121,.und),(122,.und),(123,.und),(124,.und),(125,.und),(126,.und),(127,.und),(128,.und),(129,.und),(130,.und),(131,.und),(132,.und)]
def Jo (n:Nat) (_:Nat->E6):Lp:=⟨(bmK 133 0 [1,4,5,6,13,14,15]),2,bmK 133 0 [1,4,5,6,13],2,n+1⟩
def Eg (n:Nat) (f:Nat->E6) (u v:Nat->Int) (i:Nat) (j:Nat->V):St:=⟨(jsV 133 0 j [(1,.sl 6 n (λi=>eV (f i))),(4,iV 0),(5,iV 0),(6,nV n),(13,.ref 0),(14,.ref 1),(15,nV i)]),[.row 3 1 n (λk=>iV (u k)),.row 3 1 n (λk=>iV (v k))]⟩
def IG (n:Nat) (f:Nat->E6) (u v:Nat->Int) (_:Nat):Ex × St:=(.ex 4,⟨(jsV 133 0 (λ_=>.und) [(1,.sl 6 n (λi=>eV (f i))),(4,iV 0),(5,iV 0),(6,nV n),(13,.ref 0)]),[.row 3 1 n (λk=>iV (u k)),.row 3 1 n (λk=>iV (v k))]⟩)
def Oz (n:Nat) (f:Nat->E6) (u v:Nat->Int) (i:Nat):Ex × St:=(.rt,⟨(jsV 133 0 (λ_=>.und) [(1,.sl 6 n (λi=>eV (f i))),(4,iV 44),(5,nV i),(6,nV n),(13,.ref 0)]),[.row 3 1 n (λk=>iV (u k)),.row 3 1 n (λk=>iV (v k))]⟩)
noncomputable def CF (L:LT):St->T (Ex × St):=λst=>AG tab ⟨Aq Dh,L,Gl⟩ (A1 Try.f19 4) 4 st
section
variable (L:LT) (n:Nat) (f:Nat->E6) (u v:Nat->Int) (i:Nat)  (j:Nat->V)
include L n f u v i j
theorem Afs (h0:ilt (ofNat i) (ofNat n) = false):Aj (CF L) (Jo n f) (Eg n f u v i j) = some ((.ex 4),⟨(jsV 133 0 (λ_=>.und) [(1,(.sl 6 n (λi=>eV (f i)))),(4,(iV 0)),(5,(iV 0)),(6,(nV n)),(13,(.ref 0))]),[.row 3 1 n (λk=>iV (u k)),.row 3 1 n (λk=>iV (v k))]⟩):=Aa [false] [ilt (ofNat i) (ofNat n)] (by kernel_rfl) (by simp only [h0] <;> rfl)
theorem Afv (h0:ilt (ofNat i) (ofNat n) = true) (h1:Af (ile 0 (ofNat i)) (ilt (ofNat i) (ofNat n)) = true) (h2:ieq ((f i)).src 2 = false):Aj (CF L) (Jo n f) (Eg n f u v i j) = some (.nm,⟨(jsV 133 0 (λ_=>.und) [(1,(.sl 6 n (λi=>eV (f i)))),(4,(iV 0)),(5,(iV 0)),(6,(nV n)),(13,(.ref 0)),(14,(.ref 1)),(15,(iV (wr .i64 (Ae (ofNat i) 1))))]),[.row 3 1 n (λk=>iV (u k)),.row 3 1 n (λk=>iV (v k))]⟩):=Aa (bbK 12 3) ((λc0=>[ilt (ofNat i) (ofNat n),Af (ile 0 (ofNat i)) (ilt (ofNat i) (ofNat n)),c0,c0,c0,c0,c0,c0,c0,c0,c0,false]) (ieq ((f i)).src 2)) (by kernel_rfl) (by simp only [h1] <;> simp only [h0,h2] <;> rfl)
theorem Afu (h0:ilt (ofNat i) (ofNat n) = true) (h1:Af (ile 0 (ofNat i)) (ilt (ofNat i) (ofNat n)) = true) (h2:ieq ((f i)).src 2 = true) (h15:nlt i n = true) (h3:A4 n n = true) (h4:Ai n = true) (h5:ilt 2 (Eo n v (λi=>bor (Ah true) (isW (f i))) (v i)) = false):Aj (CF L) (Jo n f) (Eg n f u v i j) = some (.nm,⟨(jsV 133 0 (λ_=>.und) [(1,(.sl 6 n (λi=>eV (f i)))),(4,(iV 0)),(5,(iV 0)),(6,(nV n)),(13,(.ref 0)),(14,(.ref 1)),(15,(iV (wr .i64 (Ae (ofNat i) 1))))]),[.row 3 1 n (λk=>iV (u k)),.row 3 1 n (λk=>iV (v k))]⟩):=Aa (bbK 18 131071) ((λc0 c1 c2=>[ilt (ofNat i) (ofNat n),c0,c1,c1,c1,c1,c1,c0,c1,nlt i n,c1,c2,c2,A4 n n,Ai n,c1,c1,ilt 2 (Eo n v (λi=>bor (Ah true) (isW (f i))) (v i))]) (Af (ile 0 (ofNat i)) (ilt (ofNat i) (ofNat n))) (ieq ((f i)).src 2) (Ay n (λ_=>true))) (by kernel_rfl) (by simp only [h1] <;> simp only [*,Ax] <;> rfl)
theorem Aft (h0:ilt (ofNat i) (ofNat n) = true) (h1:Af (ile 0 (ofNat i)) (ilt (ofNat i) (ofNat n)) = true) (h2:ieq ((f i)).src 2 = true) (h15:nlt i n = true) (h3:A4 n n = true) (h4:Ai n = true) (h5:ilt 2 (Eo n v (λi=>bor (Ah true) (isW (f i))) (v i)) = true):Aj (CF L) (Jo n f) (Eg n f u v i j) = some (.rt,⟨(jsV 133 0 (λ_=>.und) [(1,(.sl 6 n (λi=>eV (f i)))),(4,(iV 44)),(5,(nV i)),(6,(nV n)),(13,(.ref 0))]),[.row 3 1 n (λk=>iV (u k)),.row 3 1 n (λk=>iV (v k))]⟩):=Aa (bbK 18 262143) ((λc0 c1 c2=>[ilt (ofNat i) (ofNat n),c0,c1,c1,c1,c1,c1,c0,c1,nlt i n,c1,c2,c2,A4 n n,Ai n,c1,c1,ilt 2 (Eo n v (λi=>bor (Ah true) (isW (f i))) (v i))]) (Af (ile 0 (ofNat i)) (ilt (ofNat i) (ofNat n))) (ieq ((f i)).src 2) (Ay n (λ_=>true))) (by kernel_rfl) (by simp only [h1] <;> simp only [*,Ax] <;> rfl)
end
def Ju (n:Nat) (f:Nat->E6) (x y:Int) (_ _:Nat):Nat->V:=lkV A9 [(0,.und),(2,.und),(3,.und),(7,(iV x)),(8,(iV y)),(9,.und),(10,.und),(11,.und),(12,.und),(16,.und),(17,.und),(18,.und),(19,.und),(20,.und),(21,.und),(22,.und),(23,.und),(24,.und),(25,.und),(26,.und),(27,.und),(28,.und),(29,.und),(30,.und),(31,.und),(32,.und),(33,.und),(34,.und),(35,.und),(36,.und),(37,.und),(38,.und),(39,.und),(40,.und),(41,.und),(42,.und),(43,.und),(44,.und),(45,.und),(46,.und),(47,.und),(48,.und),(49,.und),(50,.und),(51,.und),(52,.und),(53,.und),(54,.und),(55,.und),(56,.und),(57,.und),(58,.und),(59,.und),(60,.und),(61,.und),(62,.und),(63,.und),(64,.und),(65,.und),(66,.und),(67,.und),(68,.und),(69,.und),(70,.und),(71,.und),(72,.und),(73,.und),(74,.und),(75,.und),(76,.und),(77,.und),(78,.und),(79,.und),(80,.und),(81,.und),(82,.und),(83,.und),(84,.und),(85,.und),(86,.und),(87,.und),(88,.und),(89,(iV x)),(90,(bV (ilt x 2))),(91,(iV y)),(92,(bV (ilt y 2))),(93,(.sl 6 n (λi=>eV (f i)))),(94,(.ref 0)),(95,(.sl 6 n (λi=>eV (f i)))),(96,(.ref 1)),(97,.und),(98,.und),(99,.und),(100,.und),(101,.und),(102,.und),(103,.und),(104,.und),(105,.und),(106,.und),(107,.und),(108,.und),(109,.und),(110,.und),(111,.und),(112,.und),(113,.und),(114,.und),(115,.und),(116,.und),(117,.und),(118,.und),(119,.und),(120,.und),(121,.und),(122,.und),(123,.und),(124,.und),(125,.und),(126,.und),(127,.und),(128,.und),(129,.und),(130,.und),(131,.und),(132,.und)]
def K3 (n:Nat) (_:Nat->E6):Lp:=⟨(bmK 133 0 [1,4,5,6,13,16]),2,bmK 133 0 [4,5],0,n+1⟩
def Gd (n:Nat) (f:Nat->E6) (u v:Nat->Int) (i:Nat) (j:Nat->V):St:=⟨(jsV 133 0 j [(1,.sl 6 n (λi=>eV (f i))),(4,iV 0),(5,iV 0),(6,nV n),(13,.ref 0),(16,nV i)]),[.row 3 1 n (λk=>iV (u k)),.row 3 1 n (λk=>iV (v k))]⟩
def Ow (_:Nat) (_:Nat->E6) (_ _:Nat->Int) (_:Nat):Ex × St:=(.ex 6,⟨(jsV 133 0 (λ_=>.und) [(4,iV 0),(5,iV 0)]),[]⟩)
def Ox (_:Nat) (_:Nat->E6) (_ _:Nat->Int) (i:Nat):Ex × St:=(.rt,⟨(jsV 133 0 (λ_=>.und) [(4,iV 45),(5,nV i)]),[]⟩)
noncomputable def DZ (L:LT):St->T (Ex × St):=λst=>AG tab ⟨Aq Dh,L,Gl⟩ (A1 Try.f19 6) 6 st
section
variable (L:LT) (n:Nat) (f:Nat->E6) (u v:Nat->Int) (i:Nat)  (j:Nat->V)
include L n f u v i j
theorem AeY (h0:ilt (ofNat i) (ofNat n) = false):Aj (DZ L) (K3 n f) (Gd n f u v i j) = some ((.ex 6),⟨(jsV 133 0 (λ_=>.und) [(4,(iV 0)),(5,(iV 0))]),[]⟩):=Aa [false] [ilt (ofNat i) (ofNat n)] (by kernel_rfl) (by simp only [h0] <;> rfl)
theorem Afa (h0:ilt (ofNat i) (ofNat n) = true) (h1:Af (ile 0 (ofNat i)) (ilt (ofNat i) (ofNat n)) = true) (h14:nlt i n = true) (h2:A4 n n = true) (h3:Ai n = true) (h4:ilt 12 (Eo n u (λi=>bor (Ah false) (isW (f i))) (u i)) = false):Aj (DZ L) (K3 n f) (Gd n f u v i j) = some (.nm,⟨(jsV 133 0 (λ_=>.und) [(1,(.sl 6 n (λi=>eV (f i)))),(4,(iV 0)),(5,(iV 0)),(6,(nV n)),(13,(.ref 0)),(16,(iV (wr .i64 (Ae (ofNat i) 1))))]),[.row 3 1 n (λk=>iV (u k)),.row 3 1 n (λk=>iV (v k))]⟩):=Aa (bbK 8 127) [ilt (ofNat i) (ofNat n),Af (ile 0 (ofNat i)) (ilt (ofNat i) (ofNat n)),nlt i n,Ay n (λ_=>true),Ay n (λ_=>true),A4 n n,Ai n,ilt 12 (Eo n u (λi=>bor (Ah false) (isW (f i))) (u i))] (by kernel_rfl) (by simp only [h1] <;> simp only [*,Ax] <;> rfl)
theorem AeZ (h0:ilt (ofNat i) (ofNat n) = true) (h1:Af (ile 0 (ofNat i)) (ilt (ofNat i) (ofNat n)) = true) (h14:nlt i n = true) (h2:A4 n n = true) (h3:Ai n = true) (h4:ilt 12 (Eo n u (λi=>bor (Ah false) (isW (f i))) (u i)) = true):Aj (DZ L) (K3 n f) (Gd n f u v i j) = some (.rt,⟨(jsV 133 0 (λ_=>.und) [(4,(iV 45)),(5,(nV i))]),[]⟩):=Aa (bbK 8 255) [ilt (ofNat i) (ofNat n),Af (ile 0 (ofNat i)) (ilt (ofNat i) (ofNat n)),nlt i n,Ay n (λ_=>true),Ay n (λ_=>true),A4 n n,Ai n,ilt 12 (Eo n u (λi=>bor (Ah false) (isW (f i))) (u i))] (by kernel_rfl) (by simp only [h1] <;> simp only [*,Ax] <;> rfl)
end
def MI (_:Nat) (_:Nat->E6) (_ _:Int) (_ _:Nat) (_ _:Nat->Int) (_:Nat):Nat->V:=lkV A9 [(0,.und),(2,.und),(3,.und),(7,.und),(8,.und),(9,.und),(10,.und),(11,.und),(12,.und),(14,.und),(15,.und),(17,.und),(18,.und),(19,.und),(20,.und),(21,.und),(22,.und),(23,.und),(24,.und),(25,.und),(26,.und),(27,.und),(28,.und),(29,.und),(30,.und),(31,.und),(32,.und),(33,.und),(34,.und),(35,.und),(36,.und),(37,.und),(38,.und),(39,.und),(40,.und),(41,.und),(42,.und),(43,.und),(44,.und),(45,.und),(46,.und),(47,.und),(48,.und),(49,.und),(50,.und),(51,.und),(52,.und),(53,.und),(54,.und),(55,.und),(56,.und),(57,.und),(58,.und),(59,.und),(60,.und),(61,.und),(62,.und),(63,.und),(64,.und),(65,.und),(66,.und),(67,.und),(68,.und),(69,.und),(70,.und),(71,.und),(72,.und),(73,.und),(74,.und),(75,.und),(76,.und),(77,.und),(78,.und),(79,.und),(80,.und),(81,.und),(82,.und),(83,.und),(84,.und),(85,.und),(86,.und),(87,.und),(88,.und),(89,.und),(90,.und),(91,.und),(92,.und),(93,.und),(94,.und),(95,.und),(96,.und),(97,.und),(98,.und),(99,.und),(100,.und),(101,.und),(102,.und),(103,.und),(104,.und),(105,.und),(106,.und),(107,.und),(108,.und),(109,.und),(110,.und),(111,.und),(112,.und),(113,.und),(114,.und),(115,.und),(116,.und),(117,.und),(118,.und),(119,.und),(120,.und),(121,.und),(122,.und),(123,.und),(124,.und),(125,.und),(126,.und),(127,.und),(128,.und),(129,.und),(130,.und),(131,.und),(132,.und)]
section
variable (L:LT) (p0:PT) (n:Nat) (f:Nat->E6) (x y:Int) (i:Nat)
include L p0 n f x y i
theorem Ad3 (h0:ilt (ofNat n) 2 = false) (h1:ilt 16 (ofNat n) = false) (hp0:p0 (BB (onP 0 p0 (Rg n f x y i) L)) (Dc n f 0 0 0 (Ft n f )) = true):(A2 (An tab ⟨Aq Dh,onP 0 p0 (Rg n f x y i) L,Gl⟩ Try.f19 [iV 2,A3 n f] [])).sem = some ((.tup [iV 30,nV i]),[]):=Aa (bbK 9 263) ((λc0 c1=>[c0,c0,c0,Ah (ieq 2 2),c1,c1,c1,ilt 16 (ofNat n),p0 (BB (onP 0 p0 (Rg n f x y i) L)) (Dc n f 0 0 0 (Ft n f ))]) (Ah (ieq 2 1)) (ilt (ofNat n) 2)) (by kernel_rfl) (by simp only [hp0] <;> simp only [h0,h1] <;> rfl)
theorem Ad2 (h0:ilt (ofNat n) 2 = false) (h1:ilt 16 (ofNat n) = false) (hp0:p0 (BB (onP 0 p0 (Rf n f x y i) L)) (Dc n f 0 0 0 (Ft n f )) = true):(A2 (An tab ⟨Aq Dh,onP 0 p0 (Rf n f x y i) L,Gl⟩ Try.f19 [iV 2,A3 n f] [])).sem = some ((.tup [iV 5,nV i]),[]):=Aa (bbK 9 263) ((λc0 c1=>[c0,c0,c0,Ah (ieq 2 2),c1,c1,c1,ilt 16 (ofNat n),p0 (BB (onP 0 p0 (Rf n f x y i) L)) (Dc n f 0 0 0 (Ft n f ))]) (Ah (ieq 2 1)) (ilt (ofNat n) 2)) (by kernel_rfl) (by simp only [hp0] <;> simp only [h0,h1] <;> rfl)
end
section
variable (L:LT) (p0:PT) (p2:PT) (n:Nat) (f:Nat->E6) (x y:Int) (i:Nat) (i2:Nat)
include L p0 p2 n f x y i i2
theorem Ad1 (h0:ilt (ofNat n) 2 = false) (h1:ilt 16 (ofNat n) = false) (hp0:p0 (BB (onP 0 p0 (Ct n f x y i) (onP 2 p2 (Hh n f x y i2) L))) (Dc n f 0 0 0 (Ft n f )) = true) (hp2:p2 (BJ (onP 0 p0 (Ct n f x y i) (onP 2 p2 (Hh n f x y i2) L))) (C8 n f x y 0 (DH n f x y i)) = true):(A2 (An tab ⟨Aq Dh,onP 0 p0 (Ct n f x y i) (onP 2 p2 (Hh n f x y i2) L),Gl⟩ Try.f19 [iV 2,A3 n f] [])).sem = some ((.tup [iV 41,nV i2]),[]):=Aa (bbK 10 775) ((λc0 c1=>[c0,c0,c0,Ah (ieq 2 2),c1,c1,c1,ilt 16 (ofNat n),p0 (BB (onP 0 p0 (Ct n f x y i) (onP 2 p2 (Hh n f x y i2) L))) (Dc n f 0 0 0 (Ft n f )),p2 (BJ (onP 0 p0 (Ct n f x y i) (onP 2 p2 (Hh n f x y i2) L))) (C8 n f x y 0 (DH n f x y i))]) (Ah (ieq 2 1)) (ilt (ofNat n) 2)) (by kernel_rfl) (by simp only [hp0,hp2] <;> simp only [h0,h1] <;> rfl)
theorem Ad0 (h0:ilt (ofNat n) 2 = false) (h1:ilt 16 (ofNat n) = false) (h2:ilt x 2 = true) (hp0:p0 (BB (onP 0 p0 (Ct n f x y i) (onP 2 p2 (BW n f x y i2) L))) (Dc n f 0 0 0 (Ft n f )) = true) (hp2:p2 (BJ (onP 0 p0 (Ct n f x y i) (onP 2 p2 (BW n f x y i2) L))) (C8 n f x y 0 (DH n f x y i)) = true):(A2 (An tab ⟨Aq Dh,onP 0 p0 (Ct n f x y i) (onP 2 p2 (BW n f x y i2) L),Gl⟩ Try.f19 [iV 2,A3 n f] [])).sem = some ((.tup [iV 42,iV 0]),[]):=Aa (bbK 11 1799) ((λc0 c1=>[c0,c0,c0,Ah (ieq 2 2),c1,c1,c1,ilt 16 (ofNat n),p0 (BB (onP 0 p0 (Ct n f x y i) (onP 2 p2 (BW n f x y i2) L))) (Dc n f 0 0 0 (Ft n f )),p2 (BJ (onP 0 p0 (Ct n f x y i) (onP 2 p2 (BW n f x y i2) L))) (C8 n f x y 0 (DH n f x y i)),ilt x 2]) (Ah (ieq 2 1)) (ilt (ofNat n) 2)) (by kernel_rfl) (by simp only [hp0,hp2] <;> simp only [*] <;> rfl)
theorem Adx (h0:ilt (ofNat n) 2 = false) (h1:ilt 16 (ofNat n) = false) (h2:ilt x 2 = false) (h3:ilt y 2 = true) (hp0:p0 (BB (onP 0 p0 (Ct n f x y i) (onP 2 p2 (BW n f x y i2) L))) (Dc n f 0 0 0 (Ft n f )) = true) (hp2:p2 (BJ (onP 0 p0 (Ct n f x y i) (onP 2 p2 (BW n f x y i2) L))) (C8 n f x y 0 (DH n f x y i)) = true):(A2 (An tab ⟨Aq Dh,onP 0 p0 (Ct n f x y i) (onP 2 p2 (BW n f x y i2) L),Gl⟩ Try.f19 [iV 2,A3 n f] [])).sem = some ((.tup [iV 43,iV 0]),[]):=Aa (bbK 12 2823) ((λc0 c1=>[c0,c0,c0,Ah (ieq 2 2),c1,c1,c1,ilt 16 (ofNat n),p0 (BB (onP 0 p0 (Ct n f x y i) (onP 2 p2 (BW n f x y i2) L))) (Dc n f 0 0 0 (Ft n f )),p2 (BJ (onP 0 p0 (Ct n f x y i) (onP 2 p2 (BW n f x y i2) L))) (C8 n f x y 0 (DH n f x y i)),ilt x 2,ilt y 2]) (Ah (ieq 2 1)) (ilt (ofNat n) 2)) (by kernel_rfl) (by simp only [hp0,hp2] <;> simp only [*] <;> rfl)
end
noncomputable abbrev Lt (L:LT) (p0:PT) (p2:PT) (p4:PT) (n:Nat) (f:Nat->E6) (x:Int) (y:Int) (i:Nat) (i2:Nat) (i4:Nat):LT:=onP 0 p0 (Ct n f x y i) (onP 2 p2 (BW n f x y i2) (onP 4 p4 (Oz n f (pO n f) (pM n f) i4) L))
theorem Adw (L:LT) (p0:PT) (p2:PT) (p4:PT) (n:Nat) (f:Nat->E6) (x y:Int) (i:Nat) (i2 i4:Nat) (h0:ilt (ofNat n) 2 = false) (h1:ilt 16 (ofNat n) = false) (h2:ilt x 2 = false) (h3:ilt y 2 = false) (h4:AN n = true) (hp0:p0 (BB (Lt L p0 p2 p4 n f x y i i2 i4)) (Dc n f 0 0 0 (Ft n f )) = true) (hp2:p2 (BJ (Lt L p0 p2 p4 n f x y i i2 i4)) (C8 n f x y 0 (DH n f x y i)) = true) (hp4:p4 (CF (Lt L p0 p2 p4 n f x y i i2 i4)) (Eg n f (pO n f) (pM n f) 0 (Ju n f x y i i2)) = true):(A2 (An tab ⟨Aq Dh,onP 0 p0 (Ct n f x y i) (onP 2 p2 (BW n f x y i2) (onP 4 p4 (Oz n f (pO n f) (pM n f) i4) L)),Gl⟩ Try.f19 [iV 2,A3 n f] [])).sem = some ((.tup [iV 44,nV i4]),[]):=Aa (bbK 17 127751) ((λc0 c1 c2 c3=>[c0,c0,c0,Ah (ieq 2 2),c1,c1,c1,ilt 16 (ofNat n),p0 (BB (Lt L p0 p2 p4 n f x y i i2 i4)) (Dc n f 0 0 0 (Ft n f )),p2 (BJ (Lt L p0 p2 p4 n f x y i i2 i4)) (C8 n f x y 0 (DH n f x y i)),ilt x 2,ilt y 2,c2,c3,c2,c3,p4 (CF (Lt L p0 p2 p4 n f x y i i2 i4)) (Eg n f (pO n f) (pM n f) 0 (Ju n f x y i i2))]) (Ah (ieq 2 1)) (ilt (ofNat n) 2) (Ay n (λ_=>true)) (AN n)) (by kernel_rfl) (by simp only [hp0,hp2,hp4] <;> simp only [*,Ax] <;> rfl)
section
variable (L:LT) (p0:PT) (p2:PT) (p4:PT) (p6:PT) (n:Nat) (f:Nat->E6) (x y:Int) (i:Nat) (i2 i4 i6:Nat)
include L p0 p2 p4 p6 n f x y i i2 i4 i6
noncomputable abbrev Ix (L:LT) (p0:PT) (p2:PT) (p4:PT) (p6:PT) (n:Nat) (f:Nat->E6) (x:Int) (y:Int) (i:Nat) (i2:Nat) (i4:Nat) (i6:Nat):LT:=onP 0 p0 (Ct n f x y i) (onP 2 p2 (BW n f x y i2) (onP 4 p4 (IG n f (pO n f) (pM n f) i4) (onP 6 p6 (Ox n f (pO n f) (pM n f) i6) L)))
theorem Ad4 (h0:ilt (ofNat n) 2 = false) (h1:ilt 16 (ofNat n) = false) (h2:ilt x 2 = false) (h3:ilt y 2 = false) (h4:AN n = true) (hp0:p0 (BB (Ix L p0 p2 p4 p6 n f x y i i2 i4 i6)) (Dc n f 0 0 0 (Ft n f )) = true) (hp2:p2 (BJ (Ix L p0 p2 p4 p6 n f x y i i2 i4 i6)) (C8 n f x y 0 (DH n f x y i)) = true) (hp4:p4 (CF (Ix L p0 p2 p4 p6 n f x y i i2 i4 i6)) (Eg n f (pO n f) (pM n f) 0 (Ju n f x y i i2)) = true) (hp6:p6 (DZ (Ix L p0 p2 p4 p6 n f x y i i2 i4 i6)) (Gd n f (pO n f) (pM n f) 0 (MI n f x y i i2 (pO n f) (pM n f) i4)) = true):(A2 (An tab ⟨Aq Dh,onP 0 p0 (Ct n f x y i) (onP 2 p2 (BW n f x y i2) (onP 4 p4 (IG n f (pO n f) (pM n f) i4) (onP 6 p6 (Ox n f (pO n f) (pM n f) i6) L))),Gl⟩ Try.f19 [iV 2,A3 n f] [])).sem = some ((.tup [iV 45,nV i6]),[]):=Aa (bbK 18 258823) ((λc0 c1 c2 c3=>[c0,c0,c0,Ah (ieq 2 2),c1,c1,c1,ilt 16 (ofNat n),p0 (BB (Ix L p0 p2 p4 p6 n f x y i i2 i4 i6)) (Dc n f 0 0 0 (Ft n f )),p2 (BJ (Ix L p0 p2 p4 p6 n f x y i i2 i4 i6)) (C8 n f x y 0 (DH n f x y i)),ilt x 2,ilt y 2,c2,c3,c2,c3,p4 (CF (Ix L p0 p2 p4 p6 n f x y i i2 i4 i6)) (Eg n f (pO n f) (pM n f) 0 (Ju n f x y i i2)),p6 (DZ (Ix L p0 p2 p4 p6 n f x y i i2 i4 i6)) (Gd n f (pO n f) (pM n f) 0 (MI n f x y i i2 (pO n f) (pM n f) i4))]) (Ah (ieq 2 1)) (ilt (ofNat n) 2) (Ay n (λ_=>true)) (AN n)) (by kernel_rfl) (by simp only [hp0,hp2,hp4,hp6] <;> simp only [*,Ax] <;> rfl)
noncomputable abbrev Iw (L:LT) (p0:PT) (p2:PT) (p4:PT) (p6:PT) (n:Nat) (f:Nat->E6) (x:Int) (y:Int) (i:Nat) (i2:Nat) (i4:Nat) (i6:Nat):LT:=onP 0 p0 (Ct n f x y i) (onP 2 p2 (BW n f x y i2) (onP 4 p4 (IG n f (pO n f) (pM n f) i4) (onP 6 p6 (Ow n f (pO n f) (pM n f) i6) L)))
theorem Adv (h0:ilt (ofNat n) 2 = false) (h1:ilt 16 (ofNat n) = false) (h2:ilt x 2 = false) (h3:ilt y 2 = false) (h4:AN n = true) (hp0:p0 (BB (Iw L p0 p2 p4 p6 n f x y i i2 i4 i6)) (Dc n f 0 0 0 (Ft n f )) = true) (hp2:p2 (BJ (Iw L p0 p2 p4 p6 n f x y i i2 i4 i6)) (C8 n f x y 0 (DH n f x y i)) = true) (hp4:p4 (CF (Iw L p0 p2 p4 p6 n f x y i i2 i4 i6)) (Eg n f (pO n f) (pM n f) 0 (Ju n f x y i i2)) = true) (hp6:p6 (DZ (Iw L p0 p2 p4 p6 n f x y i i2 i4 i6)) (Gd n f (pO n f) (pM n f) 0 (MI n f x y i i2 (pO n f) (pM n f) i4)) = true):(A2 (An tab ⟨Aq Dh,onP 0 p0 (Ct n f x y i) (onP 2 p2 (BW n f x y i2) (onP 4 p4 (IG n f (pO n f) (pM n f) i4) (onP 6 p6 (Ow n f (pO n f) (pM n f) i6) L))),Gl⟩ Try.f19 [iV 2,A3 n f] [])).sem = some ((.tup [iV 0,iV 0]),[]):=Aa (bbK 18 258823) ((λc0 c1 c2 c3=>[c0,c0,c0,Ah (ieq 2 2),c1,c1,c1,ilt 16 (ofNat n),p0 (BB (Iw L p0 p2 p4 p6 n f x y i i2 i4 i6)) (Dc n f 0 0 0 (Ft n f )),p2 (BJ (Iw L p0 p2 p4 p6 n f x y i i2 i4 i6)) (C8 n f x y 0 (DH n f x y i)),ilt x 2,ilt y 2,c2,c3,c2,c3,p4 (CF (Iw L p0 p2 p4 p6 n f x y i i2 i4 i6)) (Eg n f (pO n f) (pM n f) 0 (Ju n f x y i i2)),p6 (DZ (Iw L p0 p2 p4 p6 n f x y i i2 i4 i6)) (Gd n f (pO n f) (pM n f) 0 (MI n f x y i i2 (pO n f) (pM n f) i4))]) (Ah (ieq 2 1)) (ilt (ofNat n) 2) (Ay n (λ_=>true)) (AN n)) (by kernel_rfl) (by simp only [hp0,hp2,hp4,hp6] <;> simp only [*,Ax] <;> rfl)
end
section
variable (L:LT) (n:Nat) (f:Nat->E6)
include L n f
theorem Adz (h0:ilt (ofNat n) 2 = true):(A2 (An tab ⟨Aq Dh,L,Gl⟩ Try.f19 [iV 2,A3 n f] [])).sem = some ((.tup [iV 40,iV 0]),[]):=Aa (bbK 8 247) ((λc0 c1=>[c0,c0,c0,Ah (ieq 2 2),c1,c1,c1,true]) (Ah (ieq 2 1)) (ilt (ofNat n) 2)) (by kernel_rfl) (by simp only [h0] <;> rfl)
theorem Ady (h0:ilt (ofNat n) 2 = false) (h1:ilt 16 (ofNat n) = true):(A2 (An tab ⟨Aq Dh,L,Gl⟩ Try.f19 [iV 2,A3 n f] [])).sem = some ((.tup [iV 40,iV 0]),[]):=Aa (bbK 8 135) ((λc0 c1=>[c0,c0,c0,Ah (ieq 2 2),c1,c1,c1,ilt 16 (ofNat n)]) (Ah (ieq 2 1)) (ilt (ofNat n) 2)) (by kernel_rfl) (by simp only [h0,h1] <;> rfl)
end
theorem Nx (L:LT) (n:Nat) (f:Nat->E6) (hn:n <= 4611686018427387904):∀ (d i:Nat) (j:Nat->V) (q:Nat),n = i+d->d < q ->
  (A8 (BB L) (K1 n f) q (Dc n f (ofNat (Ak (λk=>As (f k)) i)) (ofNat (Ak (λk=>Ar (f k)) i)) i j)).sem = some (match Bc (C6 2 f) d i with
   | none=>Ct n f (ofNat (Ak (λk=>As (f k)) n)) (ofNat (Ak (λk=>Ar (f k)) n)) n
   | some t=>match ieq (DC 2 (f t)) 0 with
    | false=>Rg n f (ofNat (Ak (λk=>As (f k)) t)) (ofNat (Ak (λk=>Ar (f k)) t)) t
    | true=>Rf n f (ofNat (Ak (λk=>As (f k)) t)) (ofNat (Ak (λk=>Ar (f k)) t)) t)
 | 0,i,j,q+1,h,_=>by
  have:n = i:=by omega
  subst this
  exact Ad (Agb L n f (ofNat (Ak (λk=>As (f k)) n)) (ofNat (Ak (λk=>Ar (f k)) n)) n j (AF (Nat.le_refl _)))
 | d+1,i,j,q+1,h,h2=>by
  have hl:i < n:=by omega
  have ho:=Bd (λk=>As (f k)) i
  have hm:=Bd (λk=>Ar (f k)) i
  cases c1:ieq (AM (f i)) 0 with
  | false =>
   have c1':ieq (DC 2 (f i)) 0 = false:=c1
   rw [Cb (show C6 2 f i = true by rw [C6,c1']; rfl)]
   simp only [c1']
   exact Ad (Aga L n f (ofNat (Ak (λk=>As (f k)) i)) (ofNat (Ak (λk=>Ar (f k)) i)) i j (ofNat_lt hl) (Ap hl) c1)
  | true =>
   have c1':ieq (DC 2 (f i)) 0 = true:=c1
   cases c2:DL 2 (f i) with
   | false =>
    rw [Cb (show C6 2 f i = true by rw [C6,c1',c2]; rfl)]
    simp only [c1']
    exact Ad (AfZ L n f (ofNat (Ak (λk=>As (f k)) i)) (ofNat (Ak (λk=>Ar (f k)) i)) i j (ofNat_lt hl) (Ap hl) c1 c2)
   | true =>
    cases c3:As (f i) with
    | false =>
     cases c4:Ar (f i) with
     | false =>
      rw [B1 (show C6 2 f i = false by rw [C6,show ieq (DC 2 (f i)) 0 = true from c1,c2]; rfl),Ad (Abn L n f (ofNat (Ak (λk=>As (f k)) i)) (ofNat (Ak (λk=>Ar (f k)) i)) i j (ofNat_lt hl) (Ap hl) c1 c2 c3 c4),Aw,Ao hl hn,<- B0 (p:=(λk=>As (f k))) c3,<- B0 (p:=(λk=>Ar (f k))) c4]
      exact Nx L n f hn d (i+1) (λ_=>.und) q (by omega) (by omega)
     | true =>
      rw [B1 (show C6 2 f i = false by rw [C6,show ieq (DC 2 (f i)) 0 = true from c1,c2]; rfl),Ad (Abo L n f (ofNat (Ak (λk=>As (f k)) i)) (ofNat (Ak (λk=>Ar (f k)) i)) i j (ofNat_lt hl) (Ap hl) c1 c2 c3 c4),Aw,Ao hl hn,Ao (show Ak (λk=>Ar (f k)) i < n by omega) hn,<- B0 (p:=(λk=>As (f k))) c3,<- Bk (p:=(λk=>Ar (f k))) c4]
      exact Nx L n f hn d (i+1) (λ_=>.und) q (by omega) (by omega)
    | true =>
     cases c4:Ar (f i) with
     | false =>
      rw [B1 (show C6 2 f i = false by rw [C6,show ieq (DC 2 (f i)) 0 = true from c1,c2]; rfl),Ad (Abl L n f (ofNat (Ak (λk=>As (f k)) i)) (ofNat (Ak (λk=>Ar (f k)) i)) i j (ofNat_lt hl) (Ap hl) c1 c2 c3 c4),Aw,Ao hl hn,Ao (show Ak (λk=>As (f k)) i < n by omega) hn,<- Bk (p:=(λk=>As (f k))) c3,<- B0 (p:=(λk=>Ar (f k))) c4]
      exact Nx L n f hn d (i+1) (λ_=>.und) q (by omega) (by omega)
     | true =>
      rw [B1 (show C6 2 f i = false by rw [C6,show ieq (DC 2 (f i)) 0 = true from c1,c2]; rfl),Ad (Abm L n f (ofNat (Ak (λk=>As (f k)) i)) (ofNat (Ak (λk=>Ar (f k)) i)) i j (ofNat_lt hl) (Ap hl) c1 c2 c3 c4),Aw,Ao hl hn,Ao (show Ak (λk=>As (f k)) i < n by omega) hn,Ao (show Ak (λk=>Ar (f k)) i < n by omega) hn,<- Bk (p:=(λk=>As (f k))) c3,<- Bk (p:=(λk=>Ar (f k))) c4]
      exact Nx L n f hn d (i+1) (λ_=>.und) q (by omega) (by omega)
theorem Vo (L:LT) (n:Nat) (f:Nat->E6) (x y:Int) (hn:n <= 4611686018427387904):∀ (d i:Nat) (j:Nat->V) (q:Nat),n = i+d->d < q ->
  (A8 (BJ L) (K5 n f) q (C8 n f x y i j)).sem = some (match Bc (Fq n f) d i with
   | none=>BW n f x y 0
   | some t=>Hh n f x y t)
 | 0,i,j,q+1,h,_=>by
  have:n = i:=by omega
  subst this
  exact Ad (AfU L n f x y n j (AF (Nat.le_refl _)))
 | d+1,i,j,q+1,h,h2=>by
  have hl:i < n:=by omega
  have e1:=ND hl hn
  have hb:Af (ile 0 (Ab (wr .i64 (Ae (ofNat i) 1)) (ofNat n))) (ilt (Ab (wr .i64 (Ae (ofNat i) 1)) (ofNat n)) (ofNat n)) = true:=by
   rw [e1]; exact Ap (Nat.mod_lt _ (by omega))
  have e2:toN (ofNat ((i+1) % n)) = (i+1) % n:=rfl
  cases c1:ieq (f i).dst (f ((i+1) % n)).src with
  | false =>
   rw [Cb (show Fq n f i = true by rw [Fq,c1]; rfl)]
   exact Ad (AfT L n f x y i j (ofNat_lt hl) (Ap hl) (WO hl) hb (by rw [e1,e2]; exact c1))
  | true =>
   rw [B1 (show Fq n f i = false by rw [Fq,c1]; rfl),Ad (AfS L n f x y i j (ofNat_lt hl) (Ap hl) (WO hl) hb (by rw [e1,e2]; exact c1)),Aw,Ao hl hn]
   exact Vo L n f x y hn d (i+1) (λ_=>.und) q (by omega) (by omega)
theorem Qv (L:LT) (n:Nat) (f:Nat->E6) (u v:Nat->Int) (hn:n <= 4611686018427387904):∀ (d i:Nat) (j:Nat->V) (q:Nat),n = i+d->d < q ->
  (A8 (CF L) (Jo n f) q (Eg n f u v i j)).sem = some (match Bc (AH n v (λi=>isW (f i)) 2) d i with
   | none=>IG n f u v 0
   | some t=>Oz n f u v t)
 | 0,i,j,q+1,h,_=>by
  have:n = i:=by omega
  subst this
  exact Ad (Afs L n f u v n j (AF (Nat.le_refl _)))
 | d+1,i,j,q+1,h,h2=>by
  have hl:i < n:=by omega
  have hs:Ai n = true:=decide_eq_true hn
  cases c1:ieq (f i).src 2 with
  | false =>
   rw [B1 (show AH n v (λi=>isW (f i)) 2 i = false by rw [AH,isW,c1]; rfl),Ad (Afv L n f u v i j (ofNat_lt hl) (Ap hl) c1),Aw,Ao hl hn]
   exact Qv L n f u v hn d (i+1) (λ_=>.und) q (by omega) (by omega)
  | true =>
   cases c2:ilt 2 (Eo n v (λi=>(bor (Ah true) (isW (f i)))) (v i)) with
   | false =>
    rw [B1 (show AH n v (λi=>isW (f i)) 2 i = false by rw [AH,isW,c1]; exact c2),Ad (Afu L n f u v i j (ofNat_lt hl) (Ap hl) c1 (show nlt i n = true by simpa [nlt] using hl) (Nat.beq_refl n) hs c2),Aw,Ao hl hn]
    exact Qv L n f u v hn d (i+1) (λ_=>.und) q (by omega) (by omega)
   | true =>
    rw [Cb (show AH n v (λi=>isW (f i)) 2 i = true by rw [AH,isW,c1]; exact c2)]
    exact Ad (Aft L n f u v i j (ofNat_lt hl) (Ap hl) c1 (show nlt i n = true by simpa [nlt] using hl) (Nat.beq_refl n) hs c2)
theorem Vm (L:LT) (n:Nat) (f:Nat->E6) (u v:Nat->Int) (hn:n <= 4611686018427387904):∀ (d i:Nat) (j:Nat->V) (q:Nat),n = i+d->d < q ->
  (A8 (DZ L) (K3 n f) q (Gd n f u v i j)).sem = some (match Bc (AH n u (λ_=>true) 12) d i with
   | none=>Ow n f u v 0
   | some t=>Ox n f u v t)
 | 0,i,j,q+1,h,_=>by
  have:n = i:=by omega
  subst this
  exact Ad (AeY L n f u v n j (AF (Nat.le_refl _)))
 | d+1,i,j,q+1,h,h2=>by
  have hl:i < n:=by omega
  have hs:Ai n = true:=decide_eq_true hn
  cases c2:ilt 12 (Eo n u (λi=>(bor (Ah false) (isW (f i)))) (u i)) with
  | false =>
   rw [B1 (show AH n u (λ_=>true) 12 i = false from c2),Ad (Afa L n f u v i j (ofNat_lt hl) (Ap hl) (show nlt i n = true by simpa [nlt] using hl) (Nat.beq_refl n) hs c2),Aw,Ao hl hn]
   exact Vm L n f u v hn d (i+1) (λ_=>.und) q (by omega) (by omega)
  | true =>
   rw [Cb (show AH n u (λ_=>true) 12 i = true from c2)]
   exact Ad (AeZ L n f u v i j (ofNat_lt hl) (Ap hl) (show nlt i n = true by simpa [nlt] using hl) (Nat.beq_refl n) hs c2)
def QC (n:Nat) (f:Nat->E6):List (Nat × Lp):=[(0,K1 n f),(2,K5 n f),(4,Jo n f),(6,K3 n f)]
theorem Aa7 (n:Nat) (f:Nat->E6) (hF:AN n = true) :
  (A2 (An tab (AT Gl Dh (QC n f)) Try.f19 [iV 2,A3 n f] [])).sem = some (.tup [iV (J9 2 n f).1,iV (J9 2 n f).2],[]):=by
 have hL:=AL (QC n f)
 have hn:=CQ (Fl hF)
 unfold J9
 cases hA:ilt (ofNat n) 2 with
 | true=>exact Adz _ n f hA
 | false =>
  cases hB:ilt 16 (ofNat n) with
  | true=>exact Ady _ n f hA hB
  | false =>
   have h0:=λL j=>Nx L n f hn n 0 j (n+1) (by omega) (by omega)
   have h2:=λL j=>Vo L n f (ofNat (Ak (λk=>As (f k)) n)) (ofNat (Ak (λk=>Ar (f k)) n)) hn n 0 j (n+1) (by omega) (by omega)
   have h4:=λL j=>Qv L n f (pO n f) (pM n f) hn n 0 j (n+1) (by omega) (by omega)
   have h6:=λL j=>Vm L n f (pO n f) (pM n f) hn n 0 j (n+1) (by omega) (by omega)
   show _ = some (V.tup [iV (match D2 2 n f,ieq (D2 2 n f).1 0 with | r,false=>r | _,true=>EX n f).1,iV (match D2 2 n f,ieq (D2 2 n f).1 0 with | r,false=>r | _,true=>EX n f).2],[])
   unfold D2
   cases c1:Bc (C6 2 f) n 0 with
   | some t =>
    rw [c1] at h0
    cases c2:ieq (DC 2 (f t)) 0 with
    | false =>
     simp only [c2] at h0 ⊢
     exact A6 (Az hL hL) _ (Ad3 _ _ n f (ofNat (Ak (λk=>As (f k)) t)) (ofNat (Ak (λk=>Ar (f k)) t)) t hA hB (Am (h0 _ _)))
    | true =>
     simp only [c2] at h0 ⊢
     exact A6 (Az hL hL) _ (Ad2 _ _ n f (ofNat (Ak (λk=>As (f k)) t)) (ofNat (Ak (λk=>Ar (f k)) t)) t hA hB (Am (h0 _ _)))
   | none =>
    rw [c1] at h0
    cases c2:Bc (Fq n f) n 0 with
    | some t =>
     rw [c2] at h2
     exact A6 (Az (Az hL hL) hL) _ (Ad1 _ _ _ n f (ofNat (Ak (λk=>As (f k)) n)) (ofNat (Ak (λk=>Ar (f k)) n)) n t hA hB (Am (h0 _ _)) (Am (h2 _ _)))
    | none =>
     rw [c2] at h2
     show _ = some (V.tup [iV (EX n f).1,iV (EX n f).2],[])
     unfold EX
     cases c3:ilt (En n f) 2 with
     | true=>exact A6 (Az (Az hL hL) hL) _ (Ad0 _ _ _ n f (ofNat (Ak (λk=>As (f k)) n)) (ofNat (Ak (λk=>Ar (f k)) n)) n 0 hA hB c3 (Am (h0 _ _)) (Am (h2 _ _)))
     | false =>
      cases c4:ilt (Fn n f) 2 with
      | true=>exact A6 (Az (Az hL hL) hL) _ (Adx _ _ _ n f (ofNat (Ak (λk=>As (f k)) n)) (ofNat (Ak (λk=>Ar (f k)) n)) n 0 hA hB c3 c4 (Am (h0 _ _)) (Am (h2 _ _)))
      | false =>
       show _ = some (V.tup [iV (II n f).1,iV (II n f).2],[])
       unfold II crR
       cases c5:Bc (AH n (Av (λk=>Ar (f k)) n) (λi=>isW (f i)) 2) n 0 with
       | some t =>
        rw [show (Bc (AH n (pM n f) (λi=>isW (f i)) 2) n 0) = some t from c5] at h4
        exact A6 (Az (Az (Az hL hL) hL) hL) _ (Adw _ _ _ _ n f (ofNat (Ak (λk=>As (f k)) n)) (ofNat (Ak (λk=>Ar (f k)) n)) n 0 t hA hB c3 c4 hF (Am (h0 _ _)) (Am (h2 _ _)) (Am (h4 _ _)))
       | none =>
        rw [show (Bc (AH n (pM n f) (λi=>isW (f i)) 2) n 0) = none from c5] at h4
        cases c6:Bc (AH n (Av (λk=>As (f k)) n) (λ_=>true) 12) n 0 with
        | some t =>
         rw [show (Bc (AH n (pO n f) (λ_=>true) 12) n 0) = some t from c6] at h6
         exact A6 (Az (Az (Az (Az hL hL) hL) hL) hL) _ (Ad4 _ _ _ _ _ n f (ofNat (Ak (λk=>As (f k)) n)) (ofNat (Ak (λk=>Ar (f k)) n)) n 0 0 t hA hB c3 c4 hF (Am (h0 _ _)) (Am (h2 _ _)) (Am (h4 _ _)) (Am (h6 _ _)))
        | none =>
         rw [show (Bc (AH n (pO n f) (λ_=>true) 12) n 0) = none from c6] at h6
         exact A6 (Az (Az (Az (Az hL hL) hL) hL) hL) _ (Adv _ _ _ _ _ n f (ofNat (Ak (λk=>As (f k)) n)) (ofNat (Ak (λk=>Ar (f k)) n)) n 0 0 0 hA hB c3 c4 hF (Am (h0 _ _)) (Am (h2 _ _)) (Am (h4 _ _)) (Am (h6 _ _)))
theorem Ahf (L:LT) (a:Int) (n:Nat) (f:Nat->E6) (h0:ieq a 1 = false) (h1:ieq a 2 = false):(A2 (An tab ⟨Aq Dh,L,Gl⟩ Try.f19 [iV a,A3 n f] [])).sem = some ((.tup [iV 1,iV 0]),[]):=Aa [true,true,true,true] [Ah (ieq a 1),Ah (ieq a 1),Ah (ieq a 1),Ah (ieq a 2)] (by kernel_rfl) (by simp only [h0,h1] <;> rfl)
theorem p49:AA Try.prog Gl 19 Xp:=by
 refine A5 AQ AR Try.func19 (by kernel_rfl) (by kernel_rfl) λvs v h' h=>?_
 unfold Xp at h
 split at h
 ·rename_i a u
  obtain ⟨n,f,ha,h1⟩:=Cl h
  obtain ⟨hn,hq⟩:=Ag h1
  have:=Ac hq
  simp only [Prod.mk.injEq] at this
  obtain ⟨rfl,rfl⟩:=this
  cases ca:ieq a 1 with
  | true =>
   have h9:=CZ ca
   subst h9
   have hx:=AS Qd (QB n f)
   exact ⟨_,AT Gl Dh (QB n f),_,UN ha,rfl,hx.1,hx.2,Aa6 n f hn,AE.refl _⟩
  | false =>
   cases cb:ieq a 2 with
   | true =>
    have h9:=CZ cb
    subst h9
    have hx:=AS Qd (QC n f)
    exact ⟨_,AT Gl Dh (QC n f),_,UN ha,rfl,hx.1,hx.2,Aa7 n f hn,AE.refl _⟩
   | false =>
    have hx:=AS Qd []
    refine ⟨_,AT Gl Dh [],_,UN ha,rfl,hx.1,hx.2,?_,AE.refl _⟩
    unfold OX
    rw [ca,cb]
    exact Ahf _ a n f ca cb
 ·cases h
noncomputable def FE:List (Nat × (List V->T (V × List Blk))):=(81,Agz) :: (82,UG) :: (87,Uk) :: (86,UF) :: []
theorem Qe:AC Try.prog Gl FE:=.cons p86 <| .cons p87 <| .cons p92 <| .cons p91 .nil
def EV (a:Int) (n:Nat) (f:Nat->E6):Int:=(D2 a n f).1
def Ajp (a:Int) (n:Nat) (f:Nat->E6):Int:=(D2 a n f).2
def crI (n:Nat) (l:Nat->Int) (c:Nat->Bool) (q:Int):Int:=(crR n l c q).1
def crB (n:Nat) (l:Nat->Int) (c:Nat->Bool) (q:Int):Bool:=(crR n l c q).2
theorem D9 (p:Nat->Bool) (n:Nat) (hn:n <= 4611686018427387904):okP n (Av p n) = true:=AJ.2 λi hi=>by
 unfold Av
 cases decide (i < n) with
 | false=>rfl
 | true =>
  cases decide (Ak p i = Ak p n) with
  | true=>rfl
  | false =>
   have:=Bd p i
   exact QU (by omega)
section
variable (L:LT) (n:Nat) (f:Nat->E6)
include L n f
theorem Ad8 (h0:ilt (ofNat n) 2 = true):(A2 (An tab ⟨Aq FE,L,Gl⟩ Try.f50 [iV 1,A3 n f] [])).sem = some ((.tup [iV 40,iV 0]),[]):=Aa (bbK 9 496) ((λc0 c1=>[c0,c0,c0,false,c1,c1,c1,c1,true]) (Ah (ieq 1 1)) (ilt (ofNat n) 2)) (by kernel_rfl) (by simp only [h0] <;> rfl)
theorem Ad7 (h0:ilt (ofNat n) 2 = false) (h1:ilt 16 (ofNat n) = true):(A2 (An tab ⟨Aq FE,L,Gl⟩ Try.f50 [iV 1,A3 n f] [])).sem = some ((.tup [iV 40,iV 0]),[]):=Aa (bbK 9 256) ((λc0 c1=>[c0,c0,c0,false,c1,c1,c1,c1,ilt 16 (ofNat n)]) (Ah (ieq 1 1)) (ilt (ofNat n) 2)) (by kernel_rfl) (by simp only [h0,h1] <;> rfl)
theorem AdB (h0:ilt (ofNat n) 2 = false) (h1:ilt 16 (ofNat n) = false) (h2:AN n = true) (h3:ieq (EV 1 n f) 0 = false):(A2 (An tab ⟨Aq FE,L,Gl⟩ Try.f50 [iV 1,A3 n f] [])).sem = some ((.tup [iV (EV 1 n f),iV (Ajp 1 n f)]),[]):=Aa (bbK 12 3584) ((λc0 c1=>[c0,c0,c0,false,c1,c1,c1,c1,ilt 16 (ofNat n),Ay n (λ_=>true),AN n,Ah (ieq (EV 1 n f) 0)]) (Ah (ieq 1 1)) (ilt (ofNat n) 2)) (by kernel_rfl) (by simp only [*,Ax] <;> rfl)
theorem Ad9 (h0:ilt (ofNat n) 2 = false) (h1:ilt 16 (ofNat n) = false) (h2:AN n = true) (h3:ieq (EV 1 n f) 0 = true) (h4:Ai n = true) (h5:ilt (En n f) 2 = true):(A2 (An tab ⟨Aq FE,L,Gl⟩ Try.f50 [iV 1,A3 n f] [])).sem = some ((.tup [iV 42,iV 0]),[]):=Aa (bbK 15 30208) ((λc0 c1 c2=>[c0,c0,c0,false,c1,c1,c1,c1,ilt 16 (ofNat n),c2,AN n,Ah (ieq (EV 1 n f) 0),c2,Ai n,ilt (En n f) 2]) (Ah (ieq 1 1)) (ilt (ofNat n) 2) (Ay n (λ_=>true))) (by kernel_rfl) (by simp only [*,Ax] <;> rfl)
theorem AdA (h0:ilt (ofNat n) 2 = false) (h1:ilt 16 (ofNat n) = false) (h2:AN n = true) (h3:ieq (EV 1 n f) 0 = true) (h4:Ai n = true) (h5:ilt (En n f) 2 = false) (h6:ilt (Fn n f) 2 = true):(A2 (An tab ⟨Aq FE,L,Gl⟩ Try.f50 [iV 1,A3 n f] [])).sem = some ((.tup [iV 43,iV 0]),[]):=Aa (bbK 18 243200) ((λc0 c1 c2 c3=>[c0,c0,c0,false,c1,c1,c1,c1,ilt 16 (ofNat n),c2,AN n,Ah (ieq (EV 1 n f) 0),c2,c3,ilt (En n f) 2,c2,c3,ilt (Fn n f) 2]) (Ah (ieq 1 1)) (ilt (ofNat n) 2) (Ay n (λ_=>true)) (Ai n)) (by kernel_rfl) (by simp only [*,Ax] <;> rfl)
theorem Ad6 (h0:ilt (ofNat n) 2 = false) (h1:ilt 16 (ofNat n) = false) (h2:AN n = true) (h3:ieq (EV 1 n f) 0 = true) (h4:Ai n = true) (h5:ilt (En n f) 2 = false) (h6:ilt (Fn n f) 2 = false) (h7:BK 8 (ofNat n) (ofNat n) = true) (h8:A4 n n = true) (h9:okP n (Av (λk=>Ar (f k)) n) = true) (h10:crB n (Av (λk=>Ar (f k)) n) (λi=>isW (f i)) 2 = true):(A2 (An tab ⟨Aq FE,L,Gl⟩ Try.f50 [iV 1,A3 n f] [])).sem = some ((.tup [iV 44,iV (crI n (Av (λk=>Ar (f k)) n) (λi=>isW (f i)) 2)]),[]):=Aa (bbK 26 66958848) ((λc0 c1 c2 c3=>[c0,c0,c0,false,c1,c1,c1,c1,ilt 16 (ofNat n),c2,AN n,Ah (ieq (EV 1 n f) 0),c2,c3,ilt (En n f) 2,c2,c3,ilt (Fn n f) 2,c2,BK 8 (ofNat n) (ofNat n),c2,c2,A4 n n,c3,okP n (Av (λk=>Ar (f k)) n),crB n (Av (λk=>Ar (f k)) n) (λi=>isW (f i)) 2]) (Ah (ieq 1 1)) (ilt (ofNat n) 2) (Ay n (λ_=>true)) (Ai n)) (by kernel_rfl) (by simp only [*,Ax] <;> rfl)
theorem AdC (h0:ilt (ofNat n) 2 = false) (h1:ilt 16 (ofNat n) = false) (h2:AN n = true) (h3:ieq (EV 1 n f) 0 = true) (h4:Ai n = true) (h5:ilt (En n f) 2 = false) (h6:ilt (Fn n f) 2 = false) (h7:BK 8 (ofNat n) (ofNat n) = true) (h8:A4 n n = true) (h9:okP n (Av (λk=>Ar (f k)) n) = true) (h10:crB n (Av (λk=>Ar (f k)) n) (λi=>isW (f i)) 2 = false) (h11:okP n (Av (λk=>As (f k)) n) = true) (h12:crB n (Av (λk=>As (f k)) n) (λ_=>true) 12 = true):(A2 (An tab ⟨Aq FE,L,Gl⟩ Try.f50 [iV 1,A3 n f] [])).sem = some ((.tup [iV 45,iV (crI n (Av (λk=>As (f k)) n) (λ_=>true) 12)]),[]):=Aa (bbK 32 4261262848) ((λc0 c1 c2 c3 c4=>[c0,c0,c0,false,c1,c1,c1,c1,ilt 16 (ofNat n),c2,AN n,Ah (ieq (EV 1 n f) 0),c2,c3,ilt (En n f) 2,c2,c3,ilt (Fn n f) 2,c2,c4,c2,c2,A4 n n,c3,okP n (Av (λk=>Ar (f k)) n),crB n (Av (λk=>Ar (f k)) n) (λi=>isW (f i)) 2,c2,c4,c2,c3,okP n (Av (λk=>As (f k)) n),crB n (Av (λk=>As (f k)) n) (λ_=>true) 12]) (Ah (ieq 1 1)) (ilt (ofNat n) 2) (Ay n (λ_=>true)) (Ai n) (BK 8 (ofNat n) (ofNat n))) (by kernel_rfl) (by simp only [*,Ax] <;> rfl)
theorem Ad5 (h0:ilt (ofNat n) 2 = false) (h1:ilt 16 (ofNat n) = false) (h2:AN n = true) (h3:ieq (EV 1 n f) 0 = true) (h4:Ai n = true) (h5:ilt (En n f) 2 = false) (h6:ilt (Fn n f) 2 = false) (h7:BK 8 (ofNat n) (ofNat n) = true) (h8:A4 n n = true) (h9:okP n (Av (λk=>Ar (f k)) n) = true) (h10:crB n (Av (λk=>Ar (f k)) n) (λi=>isW (f i)) 2 = false) (h11:okP n (Av (λk=>As (f k)) n) = true) (h12:crB n (Av (λk=>As (f k)) n) (λ_=>true) 12 = false):(A2 (An tab ⟨Aq FE,L,Gl⟩ Try.f50 [iV 1,A3 n f] [])).sem = some ((.tup [iV 0,iV 0]),[]):=Aa (bbK 32 2113779200) ((λc0 c1 c2 c3 c4=>[c0,c0,c0,false,c1,c1,c1,c1,ilt 16 (ofNat n),c2,AN n,Ah (ieq (EV 1 n f) 0),c2,c3,ilt (En n f) 2,c2,c3,ilt (Fn n f) 2,c2,c4,c2,c2,A4 n n,c3,okP n (Av (λk=>Ar (f k)) n),crB n (Av (λk=>Ar (f k)) n) (λi=>isW (f i)) 2,c2,c4,c2,c3,okP n (Av (λk=>As (f k)) n),crB n (Av (λk=>As (f k)) n) (λ_=>true) 12]) (Ah (ieq 1 1)) (ilt (ofNat n) 2) (Ay n (λ_=>true)) (Ai n) (BK 8 (ofNat n) (ofNat n))) (by kernel_rfl) (by simp only [*,Ax] <;> rfl)
theorem AdG (h0:ilt (ofNat n) 2 = true):(A2 (An tab ⟨Aq FE,L,Gl⟩ Try.f50 [iV 2,A3 n f] [])).sem = some ((.tup [iV 40,iV 0]),[]):=Aa (bbK 9 503) ((λc0 c1=>[c0,c0,c0,Ah (ieq 2 2),c1,c1,c1,c1,true]) (Ah (ieq 2 1)) (ilt (ofNat n) 2)) (by kernel_rfl) (by simp only [h0] <;> rfl)
theorem AdF (h0:ilt (ofNat n) 2 = false) (h1:ilt 16 (ofNat n) = true):(A2 (An tab ⟨Aq FE,L,Gl⟩ Try.f50 [iV 2,A3 n f] [])).sem = some ((.tup [iV 40,iV 0]),[]):=Aa (bbK 9 263) ((λc0 c1=>[c0,c0,c0,Ah (ieq 2 2),c1,c1,c1,c1,ilt 16 (ofNat n)]) (Ah (ieq 2 1)) (ilt (ofNat n) 2)) (by kernel_rfl) (by simp only [h0,h1] <;> rfl)
theorem AdJ (h0:ilt (ofNat n) 2 = false) (h1:ilt 16 (ofNat n) = false) (h2:AN n = true) (h3:ieq (EV 2 n f) 0 = false):(A2 (An tab ⟨Aq FE,L,Gl⟩ Try.f50 [iV 2,A3 n f] [])).sem = some ((.tup [iV (EV 2 n f),iV (Ajp 2 n f)]),[]):=Aa (bbK 12 3591) ((λc0 c1=>[c0,c0,c0,Ah (ieq 2 2),c1,c1,c1,c1,ilt 16 (ofNat n),Ay n (λ_=>true),AN n,Ah (ieq (EV 2 n f) 0)]) (Ah (ieq 2 1)) (ilt (ofNat n) 2)) (by kernel_rfl) (by simp only [*,Ax] <;> rfl)
theorem AdH (h0:ilt (ofNat n) 2 = false) (h1:ilt 16 (ofNat n) = false) (h2:AN n = true) (h3:ieq (EV 2 n f) 0 = true) (h4:Ai n = true) (h5:ilt (En n f) 2 = true):(A2 (An tab ⟨Aq FE,L,Gl⟩ Try.f50 [iV 2,A3 n f] [])).sem = some ((.tup [iV 42,iV 0]),[]):=Aa (bbK 15 30215) ((λc0 c1 c2=>[c0,c0,c0,Ah (ieq 2 2),c1,c1,c1,c1,ilt 16 (ofNat n),c2,AN n,Ah (ieq (EV 2 n f) 0),c2,Ai n,ilt (En n f) 2]) (Ah (ieq 2 1)) (ilt (ofNat n) 2) (Ay n (λ_=>true))) (by kernel_rfl) (by simp only [*,Ax] <;> rfl)
theorem AdI (h0:ilt (ofNat n) 2 = false) (h1:ilt 16 (ofNat n) = false) (h2:AN n = true) (h3:ieq (EV 2 n f) 0 = true) (h4:Ai n = true) (h5:ilt (En n f) 2 = false) (h6:ilt (Fn n f) 2 = true):(A2 (An tab ⟨Aq FE,L,Gl⟩ Try.f50 [iV 2,A3 n f] [])).sem = some ((.tup [iV 43,iV 0]),[]):=Aa (bbK 18 243207) ((λc0 c1 c2 c3=>[c0,c0,c0,Ah (ieq 2 2),c1,c1,c1,c1,ilt 16 (ofNat n),c2,AN n,Ah (ieq (EV 2 n f) 0),c2,c3,ilt (En n f) 2,c2,c3,ilt (Fn n f) 2]) (Ah (ieq 2 1)) (ilt (ofNat n) 2) (Ay n (λ_=>true)) (Ai n)) (by kernel_rfl) (by simp only [*,Ax] <;> rfl)
theorem AdE (h0:ilt (ofNat n) 2 = false) (h1:ilt 16 (ofNat n) = false) (h2:AN n = true) (h3:ieq (EV 2 n f) 0 = true) (h4:Ai n = true) (h5:ilt (En n f) 2 = false) (h6:ilt (Fn n f) 2 = false) (h7:BK 8 (ofNat n) (ofNat n) = true) (h8:A4 n n = true) (h9:okP n (Av (λk=>Ar (f k)) n) = true) (h10:crB n (Av (λk=>Ar (f k)) n) (λi=>isW (f i)) 2 = true):(A2 (An tab ⟨Aq FE,L,Gl⟩ Try.f50 [iV 2,A3 n f] [])).sem = some ((.tup [iV 44,iV (crI n (Av (λk=>Ar (f k)) n) (λi=>isW (f i)) 2)]),[]):=Aa (bbK 26 66958855) ((λc0 c1 c2 c3=>[c0,c0,c0,Ah (ieq 2 2),c1,c1,c1,c1,ilt 16 (ofNat n),c2,AN n,Ah (ieq (EV 2 n f) 0),c2,c3,ilt (En n f) 2,c2,c3,ilt (Fn n f) 2,c2,BK 8 (ofNat n) (ofNat n),c2,c2,A4 n n,c3,okP n (Av (λk=>Ar (f k)) n),crB n (Av (λk=>Ar (f k)) n) (λi=>isW (f i)) 2]) (Ah (ieq 2 1)) (ilt (ofNat n) 2) (Ay n (λ_=>true)) (Ai n)) (by kernel_rfl) (by simp only [*,Ax] <;> rfl)
theorem AdK (h0:ilt (ofNat n) 2 = false) (h1:ilt 16 (ofNat n) = false) (h2:AN n = true) (h3:ieq (EV 2 n f) 0 = true) (h4:Ai n = true) (h5:ilt (En n f) 2 = false) (h6:ilt (Fn n f) 2 = false) (h7:BK 8 (ofNat n) (ofNat n) = true) (h8:A4 n n = true) (h9:okP n (Av (λk=>Ar (f k)) n) = true) (h10:crB n (Av (λk=>Ar (f k)) n) (λi=>isW (f i)) 2 = false) (h11:okP n (Av (λk=>As (f k)) n) = true) (h12:crB n (Av (λk=>As (f k)) n) (λ_=>true) 12 = true):(A2 (An tab ⟨Aq FE,L,Gl⟩ Try.f50 [iV 2,A3 n f] [])).sem = some ((.tup [iV 45,iV (crI n (Av (λk=>As (f k)) n) (λ_=>true) 12)]),[]):=Aa (bbK 32 4261262855) ((λc0 c1 c2 c3 c4=>[c0,c0,c0,Ah (ieq 2 2),c1,c1,c1,c1,ilt 16 (ofNat n),c2,AN n,Ah (ieq (EV 2 n f) 0),c2,c3,ilt (En n f) 2,c2,c3,ilt (Fn n f) 2,c2,c4,c2,c2,A4 n n,c3,okP n (Av (λk=>Ar (f k)) n),crB n (Av (λk=>Ar (f k)) n) (λi=>isW (f i)) 2,c2,c4,c2,c3,okP n (Av (λk=>As (f k)) n),crB n (Av (λk=>As (f k)) n) (λ_=>true) 12]) (Ah (ieq 2 1)) (ilt (ofNat n) 2) (Ay n (λ_=>true)) (Ai n) (BK 8 (ofNat n) (ofNat n))) (by kernel_rfl) (by simp only [*,Ax] <;> rfl)
theorem AdD (h0:ilt (ofNat n) 2 = false) (h1:ilt 16 (ofNat n) = false) (h2:AN n = true) (h3:ieq (EV 2 n f) 0 = true) (h4:Ai n = true) (h5:ilt (En n f) 2 = false) (h6:ilt (Fn n f) 2 = false) (h7:BK 8 (ofNat n) (ofNat n) = true) (h8:A4 n n = true) (h9:okP n (Av (λk=>Ar (f k)) n) = true) (h10:crB n (Av (λk=>Ar (f k)) n) (λi=>isW (f i)) 2 = false) (h11:okP n (Av (λk=>As (f k)) n) = true) (h12:crB n (Av (λk=>As (f k)) n) (λ_=>true) 12 = false):(A2 (An tab ⟨Aq FE,L,Gl⟩ Try.f50 [iV 2,A3 n f] [])).sem = some ((.tup [iV 0,iV 0]),[]):=Aa (bbK 32 2113779207) ((λc0 c1 c2 c3 c4=>[c0,c0,c0,Ah (ieq 2 2),c1,c1,c1,c1,ilt 16 (ofNat n),c2,AN n,Ah (ieq (EV 2 n f) 0),c2,c3,ilt (En n f) 2,c2,c3,ilt (Fn n f) 2,c2,c4,c2,c2,A4 n n,c3,okP n (Av (λk=>Ar (f k)) n),crB n (Av (λk=>Ar (f k)) n) (λi=>isW (f i)) 2,c2,c4,c2,c3,okP n (Av (λk=>As (f k)) n),crB n (Av (λk=>As (f k)) n) (λ_=>true) 12]) (Ah (ieq 2 1)) (ilt (ofNat n) 2) (Ay n (λ_=>true)) (Ai n) (BK 8 (ofNat n) (ofNat n))) (by kernel_rfl) (by simp only [*,Ax] <;> rfl)
end
theorem Ahg (L:LT) (a:Int) (n:Nat) (f:Nat->E6) (h0:ieq a 1 = false) (h1:ieq a 2 = false):(A2 (An tab ⟨Aq FE,L,Gl⟩ Try.f50 [iV a,A3 n f] [])).sem = some ((.tup [iV 1,iV 0]),[]):=Aa [true,true,true,true] [Ah (ieq a 1),Ah (ieq a 1),Ah (ieq a 1),Ah (ieq a 2)] (by kernel_rfl) (by simp only [h0,h1] <;> rfl)
theorem Aa8 (n:Nat) (f:Nat->E6) (hF:AN n = true) :
  (A2 (An tab (AT Gl FE []) Try.f50 [iV 1,A3 n f] [])).sem = some (.tup [iV (J9 1 n f).1,iV (J9 1 n f).2],[]):=by
 have hn:=CQ (Fl hF)
 have hs:Ai n = true:=decide_eq_true hn
 have hk:BK 8 (ofNat n) (ofNat n) = true:=by
  have:=HJ hF
  simp only [BK,Bool.and_eq_true,decide_eq_true_eq,Int.ofNat_eq_natCast]
  omega
 unfold J9
 cases hA:ilt (ofNat n) 2 with
 | true=>exact Ad8 _ n f hA
 | false =>
  cases hB:ilt 16 (ofNat n) with
  | true=>exact Ad7 _ n f hA hB
  | false =>
   show _ = some (V.tup [iV (match D2 1 n f,ieq (D2 1 n f).1 0 with | r,false=>r | _,true=>EX n f).1,iV (match D2 1 n f,ieq (D2 1 n f).1 0 with | r,false=>r | _,true=>EX n f).2],[])
   cases c1:ieq (D2 1 n f).1 0 with
   | false=>exact AdB _ n f hA hB hF c1
   | true =>
    show _ = some (V.tup [iV (EX n f).1,iV (EX n f).2],[])
    unfold EX
    cases c3:ilt (En n f) 2 with
    | true=>exact Ad9 _ n f hA hB hF c1 hs c3
    | false =>
     cases c4:ilt (Fn n f) 2 with
     | true=>exact AdA _ n f hA hB hF c1 hs c3 c4
     | false =>
      show _ = some (V.tup [iV (II n f).1,iV (II n f).2],[])
      unfold II
      cases c5:crB n (Av (λk=>Ar (f k)) n) (λi=>isW (f i)) 2 with
      | true =>
       rw [show crR n (Av (λk=>Ar (f k)) n) (λi=>isW (f i)) 2 = (crI n (Av (λk=>Ar (f k)) n) (λi=>isW (f i)) 2,true) from Prod.ext rfl c5]
       exact Ad6 _ n f hA hB hF c1 hs c3 c4 hk (Nat.beq_refl n) (D9 _ n hn) c5
      | false =>
       rw [show crR n (Av (λk=>Ar (f k)) n) (λi=>isW (f i)) 2 = (crI n (Av (λk=>Ar (f k)) n) (λi=>isW (f i)) 2,false) from Prod.ext rfl c5]
       cases c6:crB n (Av (λk=>As (f k)) n) (λ_=>true) 12 with
       | true =>
        rw [show crR n (Av (λk=>As (f k)) n) (λ_=>true) 12 = (crI n (Av (λk=>As (f k)) n) (λ_=>true) 12,true) from Prod.ext rfl c6]
        exact AdC _ n f hA hB hF c1 hs c3 c4 hk (Nat.beq_refl n) (D9 _ n hn) c5 (D9 _ n hn) c6
       | false =>
        rw [show crR n (Av (λk=>As (f k)) n) (λ_=>true) 12 = (crI n (Av (λk=>As (f k)) n) (λ_=>true) 12,false) from Prod.ext rfl c6]
        exact Ad5 _ n f hA hB hF c1 hs c3 c4 hk (Nat.beq_refl n) (D9 _ n hn) c5 (D9 _ n hn) c6
theorem Aa9 (n:Nat) (f:Nat->E6) (hF:AN n = true) :
  (A2 (An tab (AT Gl FE []) Try.f50 [iV 2,A3 n f] [])).sem = some (.tup [iV (J9 2 n f).1,iV (J9 2 n f).2],[]):=by
 have hn:=CQ (Fl hF)
 have hs:Ai n = true:=decide_eq_true hn
 have hk:BK 8 (ofNat n) (ofNat n) = true:=by
  have:=HJ hF
  simp only [BK,Bool.and_eq_true,decide_eq_true_eq,Int.ofNat_eq_natCast]
  omega
 unfold J9
 cases hA:ilt (ofNat n) 2 with
 | true=>exact AdG _ n f hA
 | false =>
  cases hB:ilt 16 (ofNat n) with
  | true=>exact AdF _ n f hA hB
  | false =>
   show _ = some (V.tup [iV (match D2 2 n f,ieq (D2 2 n f).1 0 with | r,false=>r | _,true=>EX n f).1,iV (match D2 2 n f,ieq (D2 2 n f).1 0 with | r,false=>r | _,true=>EX n f).2],[])
   cases c1:ieq (D2 2 n f).1 0 with
   | false=>exact AdJ _ n f hA hB hF c1
   | true =>
    show _ = some (V.tup [iV (EX n f).1,iV (EX n f).2],[])
    unfold EX
    cases c3:ilt (En n f) 2 with
    | true=>exact AdH _ n f hA hB hF c1 hs c3
    | false =>
     cases c4:ilt (Fn n f) 2 with
     | true=>exact AdI _ n f hA hB hF c1 hs c3 c4
     | false =>
      show _ = some (V.tup [iV (II n f).1,iV (II n f).2],[])
      unfold II
      cases c5:crB n (Av (λk=>Ar (f k)) n) (λi=>isW (f i)) 2 with
      | true =>
       rw [show crR n (Av (λk=>Ar (f k)) n) (λi=>isW (f i)) 2 = (crI n (Av (λk=>Ar (f k)) n) (λi=>isW (f i)) 2,true) from Prod.ext rfl c5]
       exact AdE _ n f hA hB hF c1 hs c3 c4 hk (Nat.beq_refl n) (D9 _ n hn) c5
      | false =>
       rw [show crR n (Av (λk=>Ar (f k)) n) (λi=>isW (f i)) 2 = (crI n (Av (λk=>Ar (f k)) n) (λi=>isW (f i)) 2,false) from Prod.ext rfl c5]
       cases c6:crB n (Av (λk=>As (f k)) n) (λ_=>true) 12 with
       | true =>
        rw [show crR n (Av (λk=>As (f k)) n) (λ_=>true) 12 = (crI n (Av (λk=>As (f k)) n) (λ_=>true) 12,true) from Prod.ext rfl c6]
        exact AdK _ n f hA hB hF c1 hs c3 c4 hk (Nat.beq_refl n) (D9 _ n hn) c5 (D9 _ n hn) c6
       | false =>
        rw [show crR n (Av (λk=>As (f k)) n) (λ_=>true) 12 = (crI n (Av (λk=>As (f k)) n) (λ_=>true) 12,false) from Prod.ext rfl c6]
        exact AdD _ n f hA hB hF c1 hs c3 c4 hk (Nat.beq_refl n) (D9 _ n hn) c5 (D9 _ n hn) c6
theorem p48:AA Try.prog Gl 50 Xp:=by
 refine A5 AQ AR Try.func50 (by kernel_rfl) (by kernel_rfl) λvs v h' h=>?_
 unfold Xp at h
 split at h
 ·rename_i a u
  obtain ⟨n,f,ha,h1⟩:=Cl h
  obtain ⟨hn,hq⟩:=Ag h1
  have:=Ac hq
  simp only [Prod.mk.injEq] at this
  obtain ⟨rfl,rfl⟩:=this
  cases ca:ieq a 1 with
  | true =>
   have h9:=CZ ca
   subst h9
   have hx:=AS Qe []
   exact ⟨_,AT Gl FE [],_,UN ha,rfl,hx.1,hx.2,Aa8 n f hn,AE.refl _⟩
  | false =>
   cases cb:ieq a 2 with
   | true =>
    have h9:=CZ cb
    subst h9
    have hx:=AS Qe []
    exact ⟨_,AT Gl FE [],_,UN ha,rfl,hx.1,hx.2,Aa9 n f hn,AE.refl _⟩
   | false =>
    have hx:=AS Qe []
    refine ⟨_,AT Gl FE [],_,UN ha,rfl,hx.1,hx.2,?_,AE.refl _⟩
    unfold OX
    rw [ca,cb]
    exact Ahg _ a n f ca cb
 ·cases h
end Go.Proofs.Ytjhnfomefcngfaa.Ed
