/-
  Check, the program's and the document's: one answer. No conditions.
-/
import Derived.Test.YtjhnfomefcngfaaCyR
namespace Go.Proofs.Ytjhnfomefcngfaa.Ed
open Go.Sy
open Int (ofNat)
abbrev U:V:=.und
noncomputable def Dc:List (Nat × (List V->T (V × List Blk))):=(64,BQ λe=>iV (AR e)) :: (65,ap2 gI toE λa e=>out (SB a e)) :: (22,BQ λe=>bV (As e)) :: (23,BQ λe=>bV (Ar e)) :: (66,Q8) :: (67,Q7) :: (68,Aad) :: []
theorem Qi:AB Try.prog Gl Dc:=.cons p29 <| .cons p33 <| .cons p60 <| .cons p61 <| .cons p94 <| .cons p95 <| .cons p96 .nil
def El (n:Nat) (f:Nat->E6):Int:=ofNat (Aj (λk=>As (f k)) n)
def Fo (n:Nat) (f:Nat->E6):Int:=ofNat (Aj (λk=>Ar (f k)) n)
def IH (n:Nat) (f:Nat->E6):Int × Int :=
 match crR n (Av (λk=>Ar (f k)) n) (λi=>isW (f i)) 2 with
 | (i,true)=>(44,i)
 | (_,false)=>match crR n (Av (λk=>As (f k)) n) (λ_=>true) 12 with
   | (i,true)=>(45,i)
   | (_,false)=>(0,0)
def EV (n:Nat) (f:Nat->E6):Int × Int :=
 match ilt (El n f) 2,ilt (Fo n f) 2 with
 | true,_=>(42,0)
 | false,true=>(43,0)
 | false,false=>IH n f
def J7 (a:Int) (n:Nat) (f:Nat->E6):Int × Int :=
 match ilt (ofNat n) 2,ilt 16 (ofNat n) with
 | true,_=>(40,0)
 | false,true=>(40,0)
 | false,false=>match Dy a n f,ieq (Dy a n f).1 0 with
  | r,false=>r
  | _,true=>EV n f
def Pb (a:Int) (n:Nat) (f:Nat->E6):Int × Int :=
 match ieq a 1,ieq a 2 with
 | false,false=>(1,0)
 | _,_=>J7 a n f
def Xy:List V->T (V × List Blk)
 | [.val (.int .i64 a),v]=>apL v λn f=>.br (AN n) (out (.tup [iV (Pb a n f).1,iV (Pb a n f).2])) .fail
 | _=>.fail
theorem Wu {a:Int} {n:Nat} {f:Nat->E6} (h:ieq a 1 = true ∨ ieq a 2 = true):Pb a n f = J7 a n f:=by
 unfold Pb
 rcases h with h | h
 ·rw [h]
 ·rw [h]
  cases ieq a 1 <;> rfl
def Kz (n:Nat) (_:Nat->E6):Lp:=⟨(bmK 133 0 [0,1,4,5,6,7,8,9]),0,bmK 133 0 [1,4,5,6,7,8],0,n+1⟩
def CW (n:Nat) (f:Nat->E6) (x y:Int) (i:Nat) (j:Nat->V):St:=⟨(jsV 133 0 j [(0,iV 1),(1,.sl 6 n (λi=>eV (f i))),(4,iV 0),(5,iV 0),(6,nV n),(7,iV x),(8,iV y),(9,nV i)]),[]⟩
def Cp (n:Nat) (f:Nat->E6) (x y:Int) (_:Nat):Ex × St:=(.ex 0,⟨(jsV 133 0 (λ_=>.und) [(1,.sl 6 n (λi=>eV (f i))),(4,iV 0),(5,iV 0),(6,nV n),(7,iV x),(8,iV y)]),[]⟩)
def Ri (n:Nat) (f:Nat->E6) (x y:Int) (i:Nat):Ex × St:=(.rt,⟨(jsV 133 0 (λ_=>.und) [(1,.sl 6 n (λi=>eV (f i))),(4,iV 30),(5,nV i),(6,nV n),(7,iV x),(8,iV y)]),[]⟩)
def Rh (n:Nat) (f:Nat->E6) (x y:Int) (i:Nat):Ex × St:=(.rt,⟨(jsV 133 0 (λ_=>.und) [(1,.sl 6 n (λi=>eV (f i))),(4,iV 5),(5,nV i),(6,nV n),(7,iV x),(8,iV y)]),[]⟩)
noncomputable def B7 (L:LT):St->T (Ex × St):=λst=>AF tab ⟨Ap Dc,L,Gl⟩ (A1 Try.f19 0) 0 st
section
variable (L:LT) (n:Nat) (f:Nat->E6) (x y:Int) (i:Nat)  (j:Nat->V)
include L n f x y i j
theorem Agg (h0:ilt (ofNat i) (ofNat n) = false):Ai (B7 L) (Kz n f) (CW n f x y i j) = some ((.ex 0),⟨(jsV 133 0 (λ_=>.und) [(1,(.sl 6 n (λi=>eV (f i)))),(4,(iV 0)),(5,(iV 0)),(6,(nV n)),(7,(iV x)),(8,(iV y))]),[]⟩):=Aa [false] [ilt (ofNat i) (ofNat n)] (by kernel_rfl) (by simp only [h0] <;> rfl)
theorem Agf (h0:ilt (ofNat i) (ofNat n) = true) (h1:Af (ile 0 (ofNat i)) (ilt (ofNat i) (ofNat n)) = true) (h2:ieq (AR (f i)) 0 = false):Ai (B7 L) (Kz n f) (CW n f x y i j) = some (.rt,⟨(jsV 133 0 (λ_=>.und) [(1,(.sl 6 n (λi=>eV (f i)))),(4,(iV 30)),(5,(nV i)),(6,(nV n)),(7,(iV x)),(8,(iV y))]),[]⟩):=Aa [true,true,true] [ilt (ofNat i) (ofNat n),Af (ile 0 (ofNat i)) (ilt (ofNat i) (ofNat n)),An (ieq (AR (f i)) 0)] (by kernel_rfl) (by simp only [h1] <;> simp only [h0,h2] <;> rfl)
theorem Age (h0:ilt (ofNat i) (ofNat n) = true) (h1:Af (ile 0 (ofNat i)) (ilt (ofNat i) (ofNat n)) = true) (h2:ieq (AR (f i)) 0 = true) (h3:DJ 1 (f i) = false):Ai (B7 L) (Kz n f) (CW n f x y i j) = some (.rt,⟨(jsV 133 0 (λ_=>.und) [(1,(.sl 6 n (λi=>eV (f i)))),(4,(iV 5)),(5,(nV i)),(6,(nV n)),(7,(iV x)),(8,(iV y))]),[]⟩):=Aa [true,true,false,true,true] ((λc0=>[ilt (ofNat i) (ofNat n),c0,An (ieq (AR (f i)) 0),c0,An (DJ 1 (f i))]) (Af (ile 0 (ofNat i)) (ilt (ofNat i) (ofNat n)))) (by kernel_rfl) (by simp only [h1] <;> simp only [*] <;> rfl)
theorem Abn (h0:ilt (ofNat i) (ofNat n) = true) (h1:Af (ile 0 (ofNat i)) (ilt (ofNat i) (ofNat n)) = true) (h2:ieq (AR (f i)) 0 = true) (h3:DJ 1 (f i) = true) (h4:As (f i) = false) (h5:Ar (f i) = false):Ai (B7 L) (Kz n f) (CW n f x y i j) = some (.nm,⟨(jsV 133 0 (λ_=>.und) [(0,(iV 1)),(1,(.sl 6 n (λi=>eV (f i)))),(4,(iV 0)),(5,(iV 0)),(6,(nV n)),(7,(iV x)),(8,(iV y)),(9,(iV (wr .i64 (Ae (ofNat i) 1))))]),[]⟩):=Aa (bbK 9 171) ((λc0=>[ilt (ofNat i) (ofNat n),c0,An (ieq (AR (f i)) 0),c0,An (DJ 1 (f i)),c0,As (f i),c0,Ar (f i)]) (Af (ile 0 (ofNat i)) (ilt (ofNat i) (ofNat n)))) (by kernel_rfl) (by simp only [h1] <;> simp only [*] <;> rfl)
theorem Abo (h0:ilt (ofNat i) (ofNat n) = true) (h1:Af (ile 0 (ofNat i)) (ilt (ofNat i) (ofNat n)) = true) (h2:ieq (AR (f i)) 0 = true) (h3:DJ 1 (f i) = true) (h4:As (f i) = false) (h5:Ar (f i) = true):Ai (B7 L) (Kz n f) (CW n f x y i j) = some (.nm,⟨(jsV 133 0 (λ_=>.und) [(0,(iV 1)),(1,(.sl 6 n (λi=>eV (f i)))),(4,(iV 0)),(5,(iV 0)),(6,(nV n)),(7,(iV x)),(8,(iV (wr .i64 (Ae y 1)))),(9,(iV (wr .i64 (Ae (ofNat i) 1))))]),[]⟩):=Aa (bbK 9 427) ((λc0=>[ilt (ofNat i) (ofNat n),c0,An (ieq (AR (f i)) 0),c0,An (DJ 1 (f i)),c0,As (f i),c0,Ar (f i)]) (Af (ile 0 (ofNat i)) (ilt (ofNat i) (ofNat n)))) (by kernel_rfl) (by simp only [h1] <;> simp only [*] <;> rfl)
theorem Abl (h0:ilt (ofNat i) (ofNat n) = true) (h1:Af (ile 0 (ofNat i)) (ilt (ofNat i) (ofNat n)) = true) (h2:ieq (AR (f i)) 0 = true) (h3:DJ 1 (f i) = true) (h4:As (f i) = true) (h5:Ar (f i) = false):Ai (B7 L) (Kz n f) (CW n f x y i j) = some (.nm,⟨(jsV 133 0 (λ_=>.und) [(0,(iV 1)),(1,(.sl 6 n (λi=>eV (f i)))),(4,(iV 0)),(5,(iV 0)),(6,(nV n)),(7,(iV (wr .i64 (Ae x 1)))),(8,(iV y)),(9,(iV (wr .i64 (Ae (ofNat i) 1))))]),[]⟩):=Aa (bbK 9 235) ((λc0=>[ilt (ofNat i) (ofNat n),c0,An (ieq (AR (f i)) 0),c0,An (DJ 1 (f i)),c0,As (f i),c0,Ar (f i)]) (Af (ile 0 (ofNat i)) (ilt (ofNat i) (ofNat n)))) (by kernel_rfl) (by simp only [h1] <;> simp only [*] <;> rfl)
theorem Abm (h0:ilt (ofNat i) (ofNat n) = true) (h1:Af (ile 0 (ofNat i)) (ilt (ofNat i) (ofNat n)) = true) (h2:ieq (AR (f i)) 0 = true) (h3:DJ 1 (f i) = true) (h4:As (f i) = true) (h5:Ar (f i) = true):Ai (B7 L) (Kz n f) (CW n f x y i j) = some (.nm,⟨(jsV 133 0 (λ_=>.und) [(0,(iV 1)),(1,(.sl 6 n (λi=>eV (f i)))),(4,(iV 0)),(5,(iV 0)),(6,(nV n)),(7,(iV (wr .i64 (Ae x 1)))),(8,(iV (wr .i64 (Ae y 1)))),(9,(iV (wr .i64 (Ae (ofNat i) 1))))]),[]⟩):=Aa (bbK 9 491) ((λc0=>[ilt (ofNat i) (ofNat n),c0,An (ieq (AR (f i)) 0),c0,An (DJ 1 (f i)),c0,As (f i),c0,Ar (f i)]) (Af (ile 0 (ofNat i)) (ilt (ofNat i) (ofNat n)))) (by kernel_rfl) (by simp only [h1] <;> simp only [*] <;> rfl)
end
def Ft (n:Nat) (f:Nat->E6) :Nat->V:=lkV AA [(17,(iV 1)),(18,(bV (An (ieq 1 1)))),(19,(bV (An (ieq 1 1)))),(22,(bV false)),(23,(.sl 6 n (λi=>eV (f i)))),(24,(nV n)),(25,(nV n)),(26,(bV (ilt (ofNat n) 2))),(27,(bV (ilt (ofNat n) 2))),(28,(nV n)),(29,(bV (ilt 16 (ofNat n)))),(30,(bV (ilt 16 (ofNat n))))]
def K3 (n:Nat) (_:Nat->E6):Lp:=⟨(bmK 133 0 [1,4,5,6,7,8,12]),0,bmK 133 0 [1,4,5,6,7,8],0,n+1⟩
def C3 (n:Nat) (f:Nat->E6) (x y:Int) (i:Nat) (j:Nat->V):St:=⟨(jsV 133 0 j [(1,.sl 6 n (λi=>eV (f i))),(4,iV 0),(5,iV 0),(6,nV n),(7,iV x),(8,iV y),(12,nV i)]),[]⟩
def BT (n:Nat) (f:Nat->E6) (x y:Int) (_:Nat):Ex × St:=(.ex 2,⟨(jsV 133 0 (λ_=>.und) [(1,.sl 6 n (λi=>eV (f i))),(4,iV 0),(5,iV 0),(6,nV n),(7,iV x),(8,iV y)]),[]⟩)
def Hf (n:Nat) (f:Nat->E6) (x y:Int) (i:Nat):Ex × St:=(.rt,⟨(jsV 133 0 (λ_=>.und) [(1,.sl 6 n (λi=>eV (f i))),(4,iV 41),(5,nV i),(6,nV n),(7,iV x),(8,iV y)]),[]⟩)
noncomputable def BG (L:LT):St->T (Ex × St):=λst=>AF tab ⟨Ap Dc,L,Gl⟩ (A1 Try.f19 2) 2 st
section
variable (L:LT) (n:Nat) (f:Nat->E6) (x y:Int) (i:Nat)  (j:Nat->V)
include L n f x y i j
theorem AfZ (h0:ilt (ofNat i) (ofNat n) = false):Ai (BG L) (K3 n f) (C3 n f x y i j) = some ((.ex 2),⟨(jsV 133 0 (λ_=>.und) [(1,(.sl 6 n (λi=>eV (f i)))),(4,(iV 0)),(5,(iV 0)),(6,(nV n)),(7,(iV x)),(8,(iV y))]),[]⟩):=Aa [false] [ilt (ofNat i) (ofNat n)] (by kernel_rfl) (by simp only [h0] <;> rfl)
theorem AfY (h0:ilt (ofNat i) (ofNat n) = true) (h1:Af (ile 0 (ofNat i)) (ilt (ofNat i) (ofNat n)) = true) (h2:ieq (ofNat n) 0 = false) (h3:Af (ile 0 (Ab (wr .i64 (Ae (ofNat i) 1)) (ofNat n))) (ilt (Ab (wr .i64 (Ae (ofNat i) 1)) (ofNat n)) (ofNat n)) = true) (h4:ieq ((f i)).dst ((f (toN (Ab (wr .i64 (Ae (ofNat i) 1)) (ofNat n))))).src = false):Ai (BG L) (K3 n f) (C3 n f x y i j) = some (.rt,⟨(jsV 133 0 (λ_=>.und) [(1,(.sl 6 n (λi=>eV (f i)))),(4,(iV 41)),(5,(nV i)),(6,(nV n)),(7,(iV x)),(8,(iV y))]),[]⟩):=Aa [true,true,false,true,true] [ilt (ofNat i) (ofNat n),Af (ile 0 (ofNat i)) (ilt (ofNat i) (ofNat n)),ieq (ofNat n) 0,Af (ile 0 (Ab (wr .i64 (Ae (ofNat i) 1)) (ofNat n))) (ilt (Ab (wr .i64 (Ae (ofNat i) 1)) (ofNat n)) (ofNat n)),An (ieq ((f i)).dst ((f (toN (Ab (wr .i64 (Ae (ofNat i) 1)) (ofNat n))))).src)] (by kernel_rfl) (by simp only [h1,h3] <;> simp only [*] <;> rfl)
theorem AfX (h0:ilt (ofNat i) (ofNat n) = true) (h1:Af (ile 0 (ofNat i)) (ilt (ofNat i) (ofNat n)) = true) (h2:ieq (ofNat n) 0 = false) (h3:Af (ile 0 (Ab (wr .i64 (Ae (ofNat i) 1)) (ofNat n))) (ilt (Ab (wr .i64 (Ae (ofNat i) 1)) (ofNat n)) (ofNat n)) = true) (h4:ieq ((f i)).dst ((f (toN (Ab (wr .i64 (Ae (ofNat i) 1)) (ofNat n))))).src = true):Ai (BG L) (K3 n f) (C3 n f x y i j) = some (.nm,⟨(jsV 133 0 (λ_=>.und) [(1,(.sl 6 n (λi=>eV (f i)))),(4,(iV 0)),(5,(iV 0)),(6,(nV n)),(7,(iV x)),(8,(iV y)),(12,(iV (wr .i64 (Ae (ofNat i) 1))))]),[]⟩):=Aa [true,true,false,true,false] [ilt (ofNat i) (ofNat n),Af (ile 0 (ofNat i)) (ilt (ofNat i) (ofNat n)),ieq (ofNat n) 0,Af (ile 0 (Ab (wr .i64 (Ae (ofNat i) 1)) (ofNat n))) (ilt (Ab (wr .i64 (Ae (ofNat i) 1)) (ofNat n)) (ofNat n)),An (ieq ((f i)).dst ((f (toN (Ab (wr .i64 (Ae (ofNat i) 1)) (ofNat n))))).src)] (by kernel_rfl) (by simp only [h1,h3] <;> simp only [*] <;> rfl)
end
def DD (_:Nat) (_:Nat->E6) (_ _:Int) (_:Nat):Nat->V:=lkV AA [(0,.und),(2,.und),(3,.und),(9,.und),(10,.und),(11,.und),(13,.und),(14,.und),(15,.und),(16,.und),(17,.und),(18,.und),(19,.und),(20,.und),(21,.und),(22,.und),(23,.und),(24,.und),(25,.und),(26,.und),(27,.und),(28,.und),(29,.und),(30,.und),(31,.und),(32,.und),(33,.und),(34,.und),(35,.und),(36,.und),(37,.und),(38,.und),(39,.und),(40,.und),(41,.und),(42,.und),(43,.und),(44,.und),(45,.und),(46,.und),(47,.und),(48,.und),(49,.und),(50,.und),(51,.und),(52,.und),(53,.und),(54,.und),(55,.und),(56,.und),(57,.und),(58,.und),(59,.und),(60,.und),(61,.und),(62,.und),(63,.und),(64,.und),(65,.und),(66,.und),(67,.und),(68,.und),(69,.und),(70,.und),(71,.und),(72,.und),(73,.und),(74,.und),(75,.und),(76,.und),(77,.und),(78,.und),(79,.und),(80,.und),(81,.und),(82,.und),(83,.und),(84,.und),(85,.und),(86,.und),(87,.und),(88,.und),(89,.und),(90,.und),(91,.und),(92,.und),(93,.und),(94,.und),(95,.und),(96,.und),(97,.und),(98,.und),(99,.und),(100,.und),(101,.und),(102,.und),(103,.und),(104,.und),(105,.und),(106,.und),(107,.und),(108,.und),(109,.und),(110,.und),(111,.und),(112,.und),(113,.und),(114,.und),(115,.und),(116,.und),(117,.und),(118,.und),(119,.und),(120,.und),(121,.und),(122,.und),(123,.und),(124,.und),(125,.und),(126,.und),(127,.und),(128,.und),(129,.und),(130,.und),(131,.und),(132,.und)]
def Jm (n:Nat) (_:Nat->E6):Lp:=⟨(bmK 133 0 [1,4,5,6,13,14,15]),2,bmK 133 0 [1,4,5,6,13],2,n+1⟩
def Eb (n:Nat) (f:Nat->E6) (u v:Nat->Int) (i:Nat) (j:Nat->V):St:=⟨(jsV 133 0 j [(1,.sl 6 n (λi=>eV (f i))),(4,iV 0),(5,iV 0),(6,nV n),(13,.ref 0),(14,.ref 1),(15,nV i)]),[.row 3 1 n (λk=>iV (u k)),.row 3 1 n (λk=>iV (v k))]⟩
def IF (n:Nat) (f:Nat->E6) (u v:Nat->Int) (_:Nat):Ex × St:=(.ex 4,⟨(jsV 133 0 (λ_=>.und) [(1,.sl 6 n (λi=>eV (f i))),(4,iV 0),(5,iV 0),(6,nV n),(13,.ref 0)]),[.row 3 1 n (λk=>iV (u k)),.row 3 1 n (λk=>iV (v k))]⟩)
def Oz (n:Nat) (f:Nat->E6) (u v:Nat->Int) (i:Nat):Ex × St:=(.rt,⟨(jsV 133 0 (λ_=>.und) [(1,.sl 6 n (λi=>eV (f i))),(4,iV 44),(5,nV i),(6,nV n),(13,.ref 0)]),[.row 3 1 n (λk=>iV (u k)),.row 3 1 n (λk=>iV (v k))]⟩)
noncomputable def CA (L:LT):St->T (Ex × St):=λst=>AF tab ⟨Ap Dc,L,Gl⟩ (A1 Try.f19 4) 4 st
section
variable (L:LT) (n:Nat) (f:Nat->E6) (u v:Nat->Int) (i:Nat)  (j:Nat->V)
include L n f u v i j
theorem Afw (h0:ilt (ofNat i) (ofNat n) = false):Ai (CA L) (Jm n f) (Eb n f u v i j) = some ((.ex 4),⟨(jsV 133 0 (λ_=>.und) [(1,(.sl 6 n (λi=>eV (f i)))),(4,(iV 0)),(5,(iV 0)),(6,(nV n)),(13,(.ref 0))]),[.row 3 1 n (λk=>iV (u k)),.row 3 1 n (λk=>iV (v k))]⟩):=Aa [false] [ilt (ofNat i) (ofNat n)] (by kernel_rfl) (by simp only [h0] <;> rfl)
theorem Afz (h0:ilt (ofNat i) (ofNat n) = true) (h1:Af (ile 0 (ofNat i)) (ilt (ofNat i) (ofNat n)) = true) (h2:ieq ((f i)).src 2 = false):Ai (CA L) (Jm n f) (Eb n f u v i j) = some (.nm,⟨(jsV 133 0 (λ_=>.und) [(1,(.sl 6 n (λi=>eV (f i)))),(4,(iV 0)),(5,(iV 0)),(6,(nV n)),(13,(.ref 0)),(14,(.ref 1)),(15,(iV (wr .i64 (Ae (ofNat i) 1))))]),[.row 3 1 n (λk=>iV (u k)),.row 3 1 n (λk=>iV (v k))]⟩):=Aa (bbK 12 3) ((λc0=>[ilt (ofNat i) (ofNat n),Af (ile 0 (ofNat i)) (ilt (ofNat i) (ofNat n)),c0,c0,c0,c0,c0,c0,c0,c0,c0,false]) (ieq ((f i)).src 2)) (by kernel_rfl) (by simp only [h1] <;> simp only [h0,h2] <;> rfl)
theorem Afy (h0:ilt (ofNat i) (ofNat n) = true) (h1:Af (ile 0 (ofNat i)) (ilt (ofNat i) (ofNat n)) = true) (h2:ieq ((f i)).src 2 = true) (h15:nlt i n = true) (h3:A3 n n = true) (h4:Ah n = true) (h5:ilt 2 (Em n v (λi=>bor (An true) (isW (f i))) (v i)) = false):Ai (CA L) (Jm n f) (Eb n f u v i j) = some (.nm,⟨(jsV 133 0 (λ_=>.und) [(1,(.sl 6 n (λi=>eV (f i)))),(4,(iV 0)),(5,(iV 0)),(6,(nV n)),(13,(.ref 0)),(14,(.ref 1)),(15,(iV (wr .i64 (Ae (ofNat i) 1))))]),[.row 3 1 n (λk=>iV (u k)),.row 3 1 n (λk=>iV (v k))]⟩):=Aa (bbK 18 131071) ((λc0 c1 c2=>[ilt (ofNat i) (ofNat n),c0,c1,c1,c1,c1,c1,c0,c1,nlt i n,c1,c2,c2,A3 n n,Ah n,c1,c1,ilt 2 (Em n v (λi=>bor (An true) (isW (f i))) (v i))]) (Af (ile 0 (ofNat i)) (ilt (ofNat i) (ofNat n))) (ieq ((f i)).src 2) (Au n (λ_=>true))) (by kernel_rfl) (by simp only [h1] <;> simp only [*,Aw] <;> rfl)
theorem Afx (h0:ilt (ofNat i) (ofNat n) = true) (h1:Af (ile 0 (ofNat i)) (ilt (ofNat i) (ofNat n)) = true) (h2:ieq ((f i)).src 2 = true) (h15:nlt i n = true) (h3:A3 n n = true) (h4:Ah n = true) (h5:ilt 2 (Em n v (λi=>bor (An true) (isW (f i))) (v i)) = true):Ai (CA L) (Jm n f) (Eb n f u v i j) = some (.rt,⟨(jsV 133 0 (λ_=>.und) [(1,(.sl 6 n (λi=>eV (f i)))),(4,(iV 44)),(5,(nV i)),(6,(nV n)),(13,(.ref 0))]),[.row 3 1 n (λk=>iV (u k)),.row 3 1 n (λk=>iV (v k))]⟩):=Aa (bbK 18 262143) ((λc0 c1 c2=>[ilt (ofNat i) (ofNat n),c0,c1,c1,c1,c1,c1,c0,c1,nlt i n,c1,c2,c2,A3 n n,Ah n,c1,c1,ilt 2 (Em n v (λi=>bor (An true) (isW (f i))) (v i))]) (Af (ile 0 (ofNat i)) (ilt (ofNat i) (ofNat n))) (ieq ((f i)).src 2) (Au n (λ_=>true))) (by kernel_rfl) (by simp only [h1] <;> simp only [*,Aw] <;> rfl)
end
def Js (n:Nat) (f:Nat->E6) (x y:Int) (_ _:Nat):Nat->V:=lkV AA [(0,.und),(2,.und),(3,.und),(7,(iV x)),(8,(iV y)),(9,.und),(10,.und),(11,.und),(12,.und),(16,.und),(17,.und),(18,.und),(19,.und),(20,.und),(21,.und),(22,.und),(23,.und),(24,.und),(25,.und),(26,.und),(27,.und),(28,.und),(29,.und),(30,.und),(31,.und),(32,.und),(33,.und),(34,.und),(35,.und),(36,.und),(37,.und),(38,.und),(39,.und),(40,.und),(41,.und),(42,.und),(43,.und),(44,.und),(45,.und),(46,.und),(47,.und),(48,.und),(49,.und),(50,.und),(51,.und),(52,.und),(53,.und),(54,.und),(55,.und),(56,.und),(57,.und),(58,.und),(59,.und),(60,.und),(61,.und),(62,.und),(63,.und),(64,.und),(65,.und),(66,.und),(67,.und),(68,.und),(69,.und),(70,.und),(71,.und),(72,.und),(73,.und),(74,.und),(75,.und),(76,.und),(77,.und),(78,.und),(79,.und),(80,.und),(81,.und),(82,.und),(83,.und),(84,.und),(85,.und),(86,.und),(87,.und),(88,.und),(89,(iV x)),(90,(bV (ilt x 2))),(91,(iV y)),(92,(bV (ilt y 2))),(93,(.sl 6 n (λi=>eV (f i)))),(94,(.ref 0)),(95,(.sl 6 n (λi=>eV (f i)))),(96,(.ref 1)),(97,.und),(98,.und),(99,.und),(100,.und),(101,.und),(102,.und),(103,.und),(104,.und),(105,.und),(106,.und),(107,.und),(108,.und),(109,.und),(110,.und),(111,.und),(112,.und),(113,.und),(114,.und),(115,.und),(116,.und),(117,.und),(118,.und),(119,.und),(120,.und),(121,.und),(122,.und),(123,.und),(124,.und),(125,.und),(126,.und),(127,.und),(128,.und),(129,.und),(130,.und),(131,.und),(132,.und)]
def K1 (n:Nat) (_:Nat->E6):Lp:=⟨(bmK 133 0 [1,4,5,6,13,16]),2,bmK 133 0 [4,5],0,n+1⟩
def Ge (n:Nat) (f:Nat->E6) (u v:Nat->Int) (i:Nat) (j:Nat->V):St:=⟨(jsV 133 0 j [(1,.sl 6 n (λi=>eV (f i))),(4,iV 0),(5,iV 0),(6,nV n),(13,.ref 0),(16,nV i)]),[.row 3 1 n (λk=>iV (u k)),.row 3 1 n (λk=>iV (v k))]⟩
def Ov (_:Nat) (_:Nat->E6) (_ _:Nat->Int) (_:Nat):Ex × St:=(.ex 6,⟨(jsV 133 0 (λ_=>.und) [(4,iV 0),(5,iV 0)]),[]⟩)
def Ow (_:Nat) (_:Nat->E6) (_ _:Nat->Int) (i:Nat):Ex × St:=(.rt,⟨(jsV 133 0 (λ_=>.und) [(4,iV 45),(5,nV i)]),[]⟩)
noncomputable def DW (L:LT):St->T (Ex × St):=λst=>AF tab ⟨Ap Dc,L,Gl⟩ (A1 Try.f19 6) 6 st
section
variable (L:LT) (n:Nat) (f:Nat->E6) (u v:Nat->Int) (i:Nat)  (j:Nat->V)
include L n f u v i j
theorem Afd (h0:ilt (ofNat i) (ofNat n) = false):Ai (DW L) (K1 n f) (Ge n f u v i j) = some ((.ex 6),⟨(jsV 133 0 (λ_=>.und) [(4,(iV 0)),(5,(iV 0))]),[]⟩):=Aa [false] [ilt (ofNat i) (ofNat n)] (by kernel_rfl) (by simp only [h0] <;> rfl)
theorem Aff (h0:ilt (ofNat i) (ofNat n) = true) (h1:Af (ile 0 (ofNat i)) (ilt (ofNat i) (ofNat n)) = true) (h14:nlt i n = true) (h2:A3 n n = true) (h3:Ah n = true) (h4:ilt 12 (Em n u (λi=>bor (An false) (isW (f i))) (u i)) = false):Ai (DW L) (K1 n f) (Ge n f u v i j) = some (.nm,⟨(jsV 133 0 (λ_=>.und) [(1,(.sl 6 n (λi=>eV (f i)))),(4,(iV 0)),(5,(iV 0)),(6,(nV n)),(13,(.ref 0)),(16,(iV (wr .i64 (Ae (ofNat i) 1))))]),[.row 3 1 n (λk=>iV (u k)),.row 3 1 n (λk=>iV (v k))]⟩):=Aa (bbK 8 127) [ilt (ofNat i) (ofNat n),Af (ile 0 (ofNat i)) (ilt (ofNat i) (ofNat n)),nlt i n,Au n (λ_=>true),Au n (λ_=>true),A3 n n,Ah n,ilt 12 (Em n u (λi=>bor (An false) (isW (f i))) (u i))] (by kernel_rfl) (by simp only [h1] <;> simp only [*,Aw] <;> rfl)
theorem Afe (h0:ilt (ofNat i) (ofNat n) = true) (h1:Af (ile 0 (ofNat i)) (ilt (ofNat i) (ofNat n)) = true) (h14:nlt i n = true) (h2:A3 n n = true) (h3:Ah n = true) (h4:ilt 12 (Em n u (λi=>bor (An false) (isW (f i))) (u i)) = true):Ai (DW L) (K1 n f) (Ge n f u v i j) = some (.rt,⟨(jsV 133 0 (λ_=>.und) [(4,(iV 45)),(5,(nV i))]),[]⟩):=Aa (bbK 8 255) [ilt (ofNat i) (ofNat n),Af (ile 0 (ofNat i)) (ilt (ofNat i) (ofNat n)),nlt i n,Au n (λ_=>true),Au n (λ_=>true),A3 n n,Ah n,ilt 12 (Em n u (λi=>bor (An false) (isW (f i))) (u i))] (by kernel_rfl) (by simp only [h1] <;> simp only [*,Aw] <;> rfl)
end
def MH (_:Nat) (_:Nat->E6) (_ _:Int) (_ _:Nat) (_ _:Nat->Int) (_:Nat):Nat->V:=lkV AA [(0,.und),(2,.und),(3,.und),(7,.und),(8,.und),(9,.und),(10,.und),(11,.und),(12,.und),(14,.und),(15,.und),(17,.und),(18,.und),(19,.und),(20,.und),(21,.und),(22,.und),(23,.und),(24,.und),(25,.und),(26,.und),(27,.und),(28,.und),(29,.und),(30,.und),(31,.und),(32,.und),(33,.und),(34,.und),(35,.und),(36,.und),(37,.und),(38,.und),(39,.und),(40,.und),(41,.und),(42,.und),(43,.und),(44,.und),(45,.und),(46,.und),(47,.und),(48,.und),(49,.und),(50,.und),(51,.und),(52,.und),(53,.und),(54,.und),(55,.und),(56,.und),(57,.und),(58,.und),(59,.und),(60,.und),(61,.und),(62,.und),(63,.und),(64,.und),(65,.und),(66,.und),(67,.und),(68,.und),(69,.und),(70,.und),(71,.und),(72,.und),(73,.und),(74,.und),(75,.und),(76,.und),(77,.und),(78,.und),(79,.und),(80,.und),(81,.und),(82,.und),(83,.und),(84,.und),(85,.und),(86,.und),(87,.und),(88,.und),(89,.und),(90,.und),(91,.und),(92,.und),(93,.und),(94,.und),(95,.und),(96,.und),(97,.und),(98,.und),(99,.und),(100,.und),(101,.und),(102,.und),(103,.und),(104,.und),(105,.und),(106,.und),(107,.und),(108,.und),(109,.und),(110,.und),(111,.und),(112,.und),(113,.und),(114,.und),(115,.und),(116,.und),(117,.und),(118,.und),(119,.und),(120,.und),(121,.und),(122,.und),(123,.und),(124,.und),(125,.und),(126,.und),(127,.und),(128,.und),(129,.und),(130,.und),(131,.und),(132,.und)]
section
variable (L:LT) (p0:PT) (n:Nat) (f:Nat->E6) (x y:Int) (i:Nat)
include L p0 n f x y i
theorem Adz (h0:ilt (ofNat n) 2 = false) (h1:ilt 16 (ofNat n) = false) (hp0:p0 (B7 (onP 0 p0 (Ri n f x y i) L)) (CW n f 0 0 0 (Ft n f )) = true):(Az (Ak tab ⟨Ap Dc,onP 0 p0 (Ri n f x y i) L,Gl⟩ Try.f19 [iV 1,A4 n f] [])).sem = some ((.tup [iV 30,nV i]),[]):=Aa (bbK 9 256) ((λc0 c1=>[c0,c0,c0,false,c1,c1,c1,ilt 16 (ofNat n),p0 (B7 (onP 0 p0 (Ri n f x y i) L)) (CW n f 0 0 0 (Ft n f ))]) (An (ieq 1 1)) (ilt (ofNat n) 2)) (by kernel_rfl) (by simp only [hp0] <;> simp only [h0,h1] <;> rfl)
theorem Ady (h0:ilt (ofNat n) 2 = false) (h1:ilt 16 (ofNat n) = false) (hp0:p0 (B7 (onP 0 p0 (Rh n f x y i) L)) (CW n f 0 0 0 (Ft n f )) = true):(Az (Ak tab ⟨Ap Dc,onP 0 p0 (Rh n f x y i) L,Gl⟩ Try.f19 [iV 1,A4 n f] [])).sem = some ((.tup [iV 5,nV i]),[]):=Aa (bbK 9 256) ((λc0 c1=>[c0,c0,c0,false,c1,c1,c1,ilt 16 (ofNat n),p0 (B7 (onP 0 p0 (Rh n f x y i) L)) (CW n f 0 0 0 (Ft n f ))]) (An (ieq 1 1)) (ilt (ofNat n) 2)) (by kernel_rfl) (by simp only [hp0] <;> simp only [h0,h1] <;> rfl)
end
section
variable (L:LT) (p0:PT) (p2:PT) (n:Nat) (f:Nat->E6) (x y:Int) (i:Nat) (i2:Nat)
include L p0 p2 n f x y i i2
theorem Adx (h0:ilt (ofNat n) 2 = false) (h1:ilt 16 (ofNat n) = false) (hp0:p0 (B7 (onP 0 p0 (Cp n f x y i) (onP 2 p2 (Hf n f x y i2) L))) (CW n f 0 0 0 (Ft n f )) = true) (hp2:p2 (BG (onP 0 p0 (Cp n f x y i) (onP 2 p2 (Hf n f x y i2) L))) (C3 n f x y 0 (DD n f x y i)) = true):(Az (Ak tab ⟨Ap Dc,onP 0 p0 (Cp n f x y i) (onP 2 p2 (Hf n f x y i2) L),Gl⟩ Try.f19 [iV 1,A4 n f] [])).sem = some ((.tup [iV 41,nV i2]),[]):=Aa (bbK 10 768) ((λc0 c1=>[c0,c0,c0,false,c1,c1,c1,ilt 16 (ofNat n),p0 (B7 (onP 0 p0 (Cp n f x y i) (onP 2 p2 (Hf n f x y i2) L))) (CW n f 0 0 0 (Ft n f )),p2 (BG (onP 0 p0 (Cp n f x y i) (onP 2 p2 (Hf n f x y i2) L))) (C3 n f x y 0 (DD n f x y i))]) (An (ieq 1 1)) (ilt (ofNat n) 2)) (by kernel_rfl) (by simp only [hp0,hp2] <;> simp only [h0,h1] <;> rfl)
theorem Adw (h0:ilt (ofNat n) 2 = false) (h1:ilt 16 (ofNat n) = false) (h2:ilt x 2 = true) (hp0:p0 (B7 (onP 0 p0 (Cp n f x y i) (onP 2 p2 (BT n f x y i2) L))) (CW n f 0 0 0 (Ft n f )) = true) (hp2:p2 (BG (onP 0 p0 (Cp n f x y i) (onP 2 p2 (BT n f x y i2) L))) (C3 n f x y 0 (DD n f x y i)) = true):(Az (Ak tab ⟨Ap Dc,onP 0 p0 (Cp n f x y i) (onP 2 p2 (BT n f x y i2) L),Gl⟩ Try.f19 [iV 1,A4 n f] [])).sem = some ((.tup [iV 42,iV 0]),[]):=Aa (bbK 11 1792) ((λc0 c1=>[c0,c0,c0,false,c1,c1,c1,ilt 16 (ofNat n),p0 (B7 (onP 0 p0 (Cp n f x y i) (onP 2 p2 (BT n f x y i2) L))) (CW n f 0 0 0 (Ft n f )),p2 (BG (onP 0 p0 (Cp n f x y i) (onP 2 p2 (BT n f x y i2) L))) (C3 n f x y 0 (DD n f x y i)),ilt x 2]) (An (ieq 1 1)) (ilt (ofNat n) 2)) (by kernel_rfl) (by simp only [hp0,hp2] <;> simp only [*] <;> rfl)
theorem Adt (h0:ilt (ofNat n) 2 = false) (h1:ilt 16 (ofNat n) = false) (h2:ilt x 2 = false) (h3:ilt y 2 = true) (hp0:p0 (B7 (onP 0 p0 (Cp n f x y i) (onP 2 p2 (BT n f x y i2) L))) (CW n f 0 0 0 (Ft n f )) = true) (hp2:p2 (BG (onP 0 p0 (Cp n f x y i) (onP 2 p2 (BT n f x y i2) L))) (C3 n f x y 0 (DD n f x y i)) = true):(Az (Ak tab ⟨Ap Dc,onP 0 p0 (Cp n f x y i) (onP 2 p2 (BT n f x y i2) L),Gl⟩ Try.f19 [iV 1,A4 n f] [])).sem = some ((.tup [iV 43,iV 0]),[]):=Aa (bbK 12 2816) ((λc0 c1=>[c0,c0,c0,false,c1,c1,c1,ilt 16 (ofNat n),p0 (B7 (onP 0 p0 (Cp n f x y i) (onP 2 p2 (BT n f x y i2) L))) (CW n f 0 0 0 (Ft n f )),p2 (BG (onP 0 p0 (Cp n f x y i) (onP 2 p2 (BT n f x y i2) L))) (C3 n f x y 0 (DD n f x y i)),ilt x 2,ilt y 2]) (An (ieq 1 1)) (ilt (ofNat n) 2)) (by kernel_rfl) (by simp only [hp0,hp2] <;> simp only [*] <;> rfl)
end
abbrev pO (n:Nat) (f:Nat->E6):Nat->Int:=λk=>Av (λk=>As (f k)) n k
abbrev pM (n:Nat) (f:Nat->E6):Nat->Int:=λk=>Av (λk=>Ar (f k)) n k
noncomputable abbrev Lr (L:LT) (p0:PT) (p2:PT) (p4:PT) (n:Nat) (f:Nat->E6) (x:Int) (y:Int) (i:Nat) (i2:Nat) (i4:Nat):LT:=onP 0 p0 (Cp n f x y i) (onP 2 p2 (BT n f x y i2) (onP 4 p4 (Oz n f (pO n f) (pM n f) i4) L))
theorem Ads (L:LT) (p0:PT) (p2:PT) (p4:PT) (n:Nat) (f:Nat->E6) (x y:Int) (i:Nat) (i2 i4:Nat) (h0:ilt (ofNat n) 2 = false) (h1:ilt 16 (ofNat n) = false) (h2:ilt x 2 = false) (h3:ilt y 2 = false) (h4:AN n = true) (hp0:p0 (B7 (Lr L p0 p2 p4 n f x y i i2 i4)) (CW n f 0 0 0 (Ft n f )) = true) (hp2:p2 (BG (Lr L p0 p2 p4 n f x y i i2 i4)) (C3 n f x y 0 (DD n f x y i)) = true) (hp4:p4 (CA (Lr L p0 p2 p4 n f x y i i2 i4)) (Eb n f (pO n f) (pM n f) 0 (Js n f x y i i2)) = true):(Az (Ak tab ⟨Ap Dc,onP 0 p0 (Cp n f x y i) (onP 2 p2 (BT n f x y i2) (onP 4 p4 (Oz n f (pO n f) (pM n f) i4) L)),Gl⟩ Try.f19 [iV 1,A4 n f] [])).sem = some ((.tup [iV 44,nV i4]),[]):=Aa (bbK 17 127744) ((λc0 c1 c2 c3=>[c0,c0,c0,false,c1,c1,c1,ilt 16 (ofNat n),p0 (B7 (Lr L p0 p2 p4 n f x y i i2 i4)) (CW n f 0 0 0 (Ft n f )),p2 (BG (Lr L p0 p2 p4 n f x y i i2 i4)) (C3 n f x y 0 (DD n f x y i)),ilt x 2,ilt y 2,c2,c3,c2,c3,p4 (CA (Lr L p0 p2 p4 n f x y i i2 i4)) (Eb n f (pO n f) (pM n f) 0 (Js n f x y i i2))]) (An (ieq 1 1)) (ilt (ofNat n) 2) (Au n (λ_=>true)) (AN n)) (by kernel_rfl) (by simp only [hp0,hp2,hp4] <;> simp only [*,Aw] <;> rfl)
section
variable (L:LT) (p0:PT) (p2:PT) (p4:PT) (p6:PT) (n:Nat) (f:Nat->E6) (x y:Int) (i:Nat) (i2 i4 i6:Nat)
include L p0 p2 p4 p6 n f x y i i2 i4 i6
noncomputable abbrev Iz (L:LT) (p0:PT) (p2:PT) (p4:PT) (p6:PT) (n:Nat) (f:Nat->E6) (x:Int) (y:Int) (i:Nat) (i2:Nat) (i4:Nat) (i6:Nat):LT:=onP 0 p0 (Cp n f x y i) (onP 2 p2 (BT n f x y i2) (onP 4 p4 (IF n f (pO n f) (pM n f) i4) (onP 6 p6 (Ow n f (pO n f) (pM n f) i6) L)))
theorem Ad0 (h0:ilt (ofNat n) 2 = false) (h1:ilt 16 (ofNat n) = false) (h2:ilt x 2 = false) (h3:ilt y 2 = false) (h4:AN n = true) (hp0:p0 (B7 (Iz L p0 p2 p4 p6 n f x y i i2 i4 i6)) (CW n f 0 0 0 (Ft n f )) = true) (hp2:p2 (BG (Iz L p0 p2 p4 p6 n f x y i i2 i4 i6)) (C3 n f x y 0 (DD n f x y i)) = true) (hp4:p4 (CA (Iz L p0 p2 p4 p6 n f x y i i2 i4 i6)) (Eb n f (pO n f) (pM n f) 0 (Js n f x y i i2)) = true) (hp6:p6 (DW (Iz L p0 p2 p4 p6 n f x y i i2 i4 i6)) (Ge n f (pO n f) (pM n f) 0 (MH n f x y i i2 (pO n f) (pM n f) i4)) = true):(Az (Ak tab ⟨Ap Dc,onP 0 p0 (Cp n f x y i) (onP 2 p2 (BT n f x y i2) (onP 4 p4 (IF n f (pO n f) (pM n f) i4) (onP 6 p6 (Ow n f (pO n f) (pM n f) i6) L))),Gl⟩ Try.f19 [iV 1,A4 n f] [])).sem = some ((.tup [iV 45,nV i6]),[]):=Aa (bbK 18 258816) ((λc0 c1 c2 c3=>[c0,c0,c0,false,c1,c1,c1,ilt 16 (ofNat n),p0 (B7 (Iz L p0 p2 p4 p6 n f x y i i2 i4 i6)) (CW n f 0 0 0 (Ft n f )),p2 (BG (Iz L p0 p2 p4 p6 n f x y i i2 i4 i6)) (C3 n f x y 0 (DD n f x y i)),ilt x 2,ilt y 2,c2,c3,c2,c3,p4 (CA (Iz L p0 p2 p4 p6 n f x y i i2 i4 i6)) (Eb n f (pO n f) (pM n f) 0 (Js n f x y i i2)),p6 (DW (Iz L p0 p2 p4 p6 n f x y i i2 i4 i6)) (Ge n f (pO n f) (pM n f) 0 (MH n f x y i i2 (pO n f) (pM n f) i4))]) (An (ieq 1 1)) (ilt (ofNat n) 2) (Au n (λ_=>true)) (AN n)) (by kernel_rfl) (by simp only [hp0,hp2,hp4,hp6] <;> simp only [*,Aw] <;> rfl)
noncomputable abbrev Iy (L:LT) (p0:PT) (p2:PT) (p4:PT) (p6:PT) (n:Nat) (f:Nat->E6) (x:Int) (y:Int) (i:Nat) (i2:Nat) (i4:Nat) (i6:Nat):LT:=onP 0 p0 (Cp n f x y i) (onP 2 p2 (BT n f x y i2) (onP 4 p4 (IF n f (pO n f) (pM n f) i4) (onP 6 p6 (Ov n f (pO n f) (pM n f) i6) L)))
theorem Adr (h0:ilt (ofNat n) 2 = false) (h1:ilt 16 (ofNat n) = false) (h2:ilt x 2 = false) (h3:ilt y 2 = false) (h4:AN n = true) (hp0:p0 (B7 (Iy L p0 p2 p4 p6 n f x y i i2 i4 i6)) (CW n f 0 0 0 (Ft n f )) = true) (hp2:p2 (BG (Iy L p0 p2 p4 p6 n f x y i i2 i4 i6)) (C3 n f x y 0 (DD n f x y i)) = true) (hp4:p4 (CA (Iy L p0 p2 p4 p6 n f x y i i2 i4 i6)) (Eb n f (pO n f) (pM n f) 0 (Js n f x y i i2)) = true) (hp6:p6 (DW (Iy L p0 p2 p4 p6 n f x y i i2 i4 i6)) (Ge n f (pO n f) (pM n f) 0 (MH n f x y i i2 (pO n f) (pM n f) i4)) = true):(Az (Ak tab ⟨Ap Dc,onP 0 p0 (Cp n f x y i) (onP 2 p2 (BT n f x y i2) (onP 4 p4 (IF n f (pO n f) (pM n f) i4) (onP 6 p6 (Ov n f (pO n f) (pM n f) i6) L))),Gl⟩ Try.f19 [iV 1,A4 n f] [])).sem = some ((.tup [iV 0,iV 0]),[]):=Aa (bbK 18 258816) ((λc0 c1 c2 c3=>[c0,c0,c0,false,c1,c1,c1,ilt 16 (ofNat n),p0 (B7 (Iy L p0 p2 p4 p6 n f x y i i2 i4 i6)) (CW n f 0 0 0 (Ft n f )),p2 (BG (Iy L p0 p2 p4 p6 n f x y i i2 i4 i6)) (C3 n f x y 0 (DD n f x y i)),ilt x 2,ilt y 2,c2,c3,c2,c3,p4 (CA (Iy L p0 p2 p4 p6 n f x y i i2 i4 i6)) (Eb n f (pO n f) (pM n f) 0 (Js n f x y i i2)),p6 (DW (Iy L p0 p2 p4 p6 n f x y i i2 i4 i6)) (Ge n f (pO n f) (pM n f) 0 (MH n f x y i i2 (pO n f) (pM n f) i4))]) (An (ieq 1 1)) (ilt (ofNat n) 2) (Au n (λ_=>true)) (AN n)) (by kernel_rfl) (by simp only [hp0,hp2,hp4,hp6] <;> simp only [*,Aw] <;> rfl)
end
section
variable (L:LT) (n:Nat) (f:Nat->E6)
include L n f
theorem Adv (h0:ilt (ofNat n) 2 = true):(Az (Ak tab ⟨Ap Dc,L,Gl⟩ Try.f19 [iV 1,A4 n f] [])).sem = some ((.tup [iV 40,iV 0]),[]):=Aa (bbK 8 240) ((λc0 c1=>[c0,c0,c0,false,c1,c1,c1,true]) (An (ieq 1 1)) (ilt (ofNat n) 2)) (by kernel_rfl) (by simp only [h0] <;> rfl)
theorem Adu (h0:ilt (ofNat n) 2 = false) (h1:ilt 16 (ofNat n) = true):(Az (Ak tab ⟨Ap Dc,L,Gl⟩ Try.f19 [iV 1,A4 n f] [])).sem = some ((.tup [iV 40,iV 0]),[]):=Aa (bbK 8 128) ((λc0 c1=>[c0,c0,c0,false,c1,c1,c1,ilt 16 (ofNat n)]) (An (ieq 1 1)) (ilt (ofNat n) 2)) (by kernel_rfl) (by simp only [h0,h1] <;> rfl)
end
theorem Nx (L:LT) (n:Nat) (f:Nat->E6) (hn:n <= 4611686018427387904):∀ (d i:Nat) (j:Nat->V) (q:Nat),n = i+d->d < q ->
  (A9 (B7 L) (Kz n f) q (CW n f (ofNat (Aj (λk=>As (f k)) i)) (ofNat (Aj (λk=>Ar (f k)) i)) i j)).sem = some (match Be (C2 1 f) d i with
   | none=>Cp n f (ofNat (Aj (λk=>As (f k)) n)) (ofNat (Aj (λk=>Ar (f k)) n)) n
   | some t=>match ieq (D9 1 (f t)) 0 with
    | false=>Ri n f (ofNat (Aj (λk=>As (f k)) t)) (ofNat (Aj (λk=>Ar (f k)) t)) t
    | true=>Rh n f (ofNat (Aj (λk=>As (f k)) t)) (ofNat (Aj (λk=>Ar (f k)) t)) t)
 | 0,i,j,q+1,h,_=>by
  have:n = i:=by omega
  subst this
  exact Ad (Agg L n f (ofNat (Aj (λk=>As (f k)) n)) (ofNat (Aj (λk=>Ar (f k)) n)) n j (AD (Nat.le_refl _)))
 | d+1,i,j,q+1,h,h2=>by
  have hl:i < n:=by omega
  have ho:=AX (λk=>As (f k)) i
  have hm:=AX (λk=>Ar (f k)) i
  cases c1:ieq (AR (f i)) 0 with
  | false =>
   have c1':ieq (D9 1 (f i)) 0 = false:=c1
   rw [BZ (show C2 1 f i = true by rw [C2,c1']; rfl)]
   simp only [c1']
   exact Ad (Agf L n f (ofNat (Aj (λk=>As (f k)) i)) (ofNat (Aj (λk=>Ar (f k)) i)) i j (ofNat_lt hl) (Aq hl) c1)
  | true =>
   have c1':ieq (D9 1 (f i)) 0 = true:=c1
   cases c2:DJ 1 (f i) with
   | false =>
    rw [BZ (show C2 1 f i = true by rw [C2,c1',c2]; rfl)]
    simp only [c1']
    exact Ad (Age L n f (ofNat (Aj (λk=>As (f k)) i)) (ofNat (Aj (λk=>Ar (f k)) i)) i j (ofNat_lt hl) (Aq hl) c1 c2)
   | true =>
    cases c3:As (f i) with
    | false =>
     cases c4:Ar (f i) with
     | false =>
      rw [Bz (show C2 1 f i = false by rw [C2,show ieq (D9 1 (f i)) 0 = true from c1,c2]; rfl),Ad (Abn L n f (ofNat (Aj (λk=>As (f k)) i)) (ofNat (Aj (λk=>Ar (f k)) i)) i j (ofNat_lt hl) (Aq hl) c1 c2 c3 c4),Ax,Ao hl hn,<- Br (p:=(λk=>As (f k))) c3,<- Br (p:=(λk=>Ar (f k))) c4]
      exact Nx L n f hn d (i+1) (λ_=>.und) q (by omega) (by omega)
     | true =>
      rw [Bz (show C2 1 f i = false by rw [C2,show ieq (D9 1 (f i)) 0 = true from c1,c2]; rfl),Ad (Abo L n f (ofNat (Aj (λk=>As (f k)) i)) (ofNat (Aj (λk=>Ar (f k)) i)) i j (ofNat_lt hl) (Aq hl) c1 c2 c3 c4),Ax,Ao hl hn,Ao (show Aj (λk=>Ar (f k)) i < n by omega) hn,<- Br (p:=(λk=>As (f k))) c3,<- Bi (p:=(λk=>Ar (f k))) c4]
      exact Nx L n f hn d (i+1) (λ_=>.und) q (by omega) (by omega)
    | true =>
     cases c4:Ar (f i) with
     | false =>
      rw [Bz (show C2 1 f i = false by rw [C2,show ieq (D9 1 (f i)) 0 = true from c1,c2]; rfl),Ad (Abl L n f (ofNat (Aj (λk=>As (f k)) i)) (ofNat (Aj (λk=>Ar (f k)) i)) i j (ofNat_lt hl) (Aq hl) c1 c2 c3 c4),Ax,Ao hl hn,Ao (show Aj (λk=>As (f k)) i < n by omega) hn,<- Bi (p:=(λk=>As (f k))) c3,<- Br (p:=(λk=>Ar (f k))) c4]
      exact Nx L n f hn d (i+1) (λ_=>.und) q (by omega) (by omega)
     | true =>
      rw [Bz (show C2 1 f i = false by rw [C2,show ieq (D9 1 (f i)) 0 = true from c1,c2]; rfl),Ad (Abm L n f (ofNat (Aj (λk=>As (f k)) i)) (ofNat (Aj (λk=>Ar (f k)) i)) i j (ofNat_lt hl) (Aq hl) c1 c2 c3 c4),Ax,Ao hl hn,Ao (show Aj (λk=>As (f k)) i < n by omega) hn,Ao (show Aj (λk=>Ar (f k)) i < n by omega) hn,<- Bi (p:=(λk=>As (f k))) c3,<- Bi (p:=(λk=>Ar (f k))) c4]
      exact Nx L n f hn d (i+1) (λ_=>.und) q (by omega) (by omega)
theorem Vw (L:LT) (n:Nat) (f:Nat->E6) (x y:Int) (hn:n <= 4611686018427387904):∀ (d i:Nat) (j:Nat->V) (q:Nat),n = i+d->d < q ->
  (A9 (BG L) (K3 n f) q (C3 n f x y i j)).sem = some (match Be (Fr n f) d i with
   | none=>BT n f x y 0
   | some t=>Hf n f x y t)
 | 0,i,j,q+1,h,_=>by
  have:n = i:=by omega
  subst this
  exact Ad (AfZ L n f x y n j (AD (Nat.le_refl _)))
 | d+1,i,j,q+1,h,h2=>by
  have hl:i < n:=by omega
  have e1:=NE hl hn
  have hb:Af (ile 0 (Ab (wr .i64 (Ae (ofNat i) 1)) (ofNat n))) (ilt (Ab (wr .i64 (Ae (ofNat i) 1)) (ofNat n)) (ofNat n)) = true:=by
   rw [e1]; exact Aq (Nat.mod_lt _ (by omega))
  have e2:toN (ofNat ((i+1) % n)) = (i+1) % n:=rfl
  cases c1:ieq (f i).dst (f ((i+1) % n)).src with
  | false =>
   rw [BZ (show Fr n f i = true by rw [Fr,c1]; rfl)]
   exact Ad (AfY L n f x y i j (ofNat_lt hl) (Aq hl) (WX hl) hb (by rw [e1,e2]; exact c1))
  | true =>
   rw [Bz (show Fr n f i = false by rw [Fr,c1]; rfl),Ad (AfX L n f x y i j (ofNat_lt hl) (Aq hl) (WX hl) hb (by rw [e1,e2]; exact c1)),Ax,Ao hl hn]
   exact Vw L n f x y hn d (i+1) (λ_=>.und) q (by omega) (by omega)
theorem Qz (L:LT) (n:Nat) (f:Nat->E6) (u v:Nat->Int) (hn:n <= 4611686018427387904):∀ (d i:Nat) (j:Nat->V) (q:Nat),n = i+d->d < q ->
  (A9 (CA L) (Jm n f) q (Eb n f u v i j)).sem = some (match Be (AG n v (λi=>isW (f i)) 2) d i with
   | none=>IF n f u v 0
   | some t=>Oz n f u v t)
 | 0,i,j,q+1,h,_=>by
  have:n = i:=by omega
  subst this
  exact Ad (Afw L n f u v n j (AD (Nat.le_refl _)))
 | d+1,i,j,q+1,h,h2=>by
  have hl:i < n:=by omega
  have hs:Ah n = true:=decide_eq_true hn
  cases c1:ieq (f i).src 2 with
  | false =>
   rw [Bz (show AG n v (λi=>isW (f i)) 2 i = false by rw [AG,isW,c1]; rfl),Ad (Afz L n f u v i j (ofNat_lt hl) (Aq hl) c1),Ax,Ao hl hn]
   exact Qz L n f u v hn d (i+1) (λ_=>.und) q (by omega) (by omega)
  | true =>
   cases c2:ilt 2 (Em n v (λi=>(bor (An true) (isW (f i)))) (v i)) with
   | false =>
    rw [Bz (show AG n v (λi=>isW (f i)) 2 i = false by rw [AG,isW,c1]; exact c2),Ad (Afy L n f u v i j (ofNat_lt hl) (Aq hl) c1 (show nlt i n = true by simpa [nlt] using hl) (Nat.beq_refl n) hs c2),Ax,Ao hl hn]
    exact Qz L n f u v hn d (i+1) (λ_=>.und) q (by omega) (by omega)
   | true =>
    rw [BZ (show AG n v (λi=>isW (f i)) 2 i = true by rw [AG,isW,c1]; exact c2)]
    exact Ad (Afx L n f u v i j (ofNat_lt hl) (Aq hl) c1 (show nlt i n = true by simpa [nlt] using hl) (Nat.beq_refl n) hs c2)
theorem Vu (L:LT) (n:Nat) (f:Nat->E6) (u v:Nat->Int) (hn:n <= 4611686018427387904):∀ (d i:Nat) (j:Nat->V) (q:Nat),n = i+d->d < q ->
  (A9 (DW L) (K1 n f) q (Ge n f u v i j)).sem = some (match Be (AG n u (λ_=>true) 12) d i with
   | none=>Ov n f u v 0
   | some t=>Ow n f u v t)
 | 0,i,j,q+1,h,_=>by
  have:n = i:=by omega
  subst this
  exact Ad (Afd L n f u v n j (AD (Nat.le_refl _)))
 | d+1,i,j,q+1,h,h2=>by
  have hl:i < n:=by omega
  have hs:Ah n = true:=decide_eq_true hn
  cases c2:ilt 12 (Em n u (λi=>(bor (An false) (isW (f i)))) (u i)) with
  | false =>
   rw [Bz (show AG n u (λ_=>true) 12 i = false from c2),Ad (Aff L n f u v i j (ofNat_lt hl) (Aq hl) (show nlt i n = true by simpa [nlt] using hl) (Nat.beq_refl n) hs c2),Ax,Ao hl hn]
   exact Vu L n f u v hn d (i+1) (λ_=>.und) q (by omega) (by omega)
  | true =>
   rw [BZ (show AG n u (λ_=>true) 12 i = true from c2)]
   exact Ad (Afe L n f u v i j (ofNat_lt hl) (Aq hl) (show nlt i n = true by simpa [nlt] using hl) (Nat.beq_refl n) hs c2)
def QG (n:Nat) (f:Nat->E6):List (Nat × Lp):=[(0,Kz n f),(2,K3 n f),(4,Jm n f),(6,K1 n f)]
theorem AaB (n:Nat) (f:Nat->E6) (hF:AN n = true) :
  (Az (Ak tab (AS Gl Dc (QG n f)) Try.f19 [iV 1,A4 n f] [])).sem = some (.tup [iV (J7 1 n f).1,iV (J7 1 n f).2],[]):=by
 have hL:=AL (QG n f)
 have hn:=CM (Fm hF)
 unfold J7
 cases hA:ilt (ofNat n) 2 with
 | true=>exact Adv _ n f hA
 | false =>
  cases hB:ilt 16 (ofNat n) with
  | true=>exact Adu _ n f hA hB
  | false =>
   have h0:=λL j=>Nx L n f hn n 0 j (n+1) (by omega) (by omega)
   have h2:=λL j=>Vw L n f (ofNat (Aj (λk=>As (f k)) n)) (ofNat (Aj (λk=>Ar (f k)) n)) hn n 0 j (n+1) (by omega) (by omega)
   have h4:=λL j=>Qz L n f (pO n f) (pM n f) hn n 0 j (n+1) (by omega) (by omega)
   have h6:=λL j=>Vu L n f (pO n f) (pM n f) hn n 0 j (n+1) (by omega) (by omega)
   show _ = some (V.tup [iV (match Dy 1 n f,ieq (Dy 1 n f).1 0 with | r,false=>r | _,true=>EV n f).1,iV (match Dy 1 n f,ieq (Dy 1 n f).1 0 with | r,false=>r | _,true=>EV n f).2],[])
   unfold Dy
   cases c1:Be (C2 1 f) n 0 with
   | some t =>
    rw [c1] at h0
    cases c2:ieq (D9 1 (f t)) 0 with
    | false =>
     simp only [c2] at h0 ⊢
     exact A7 (Ay hL hL) _ (Adz _ _ n f (ofNat (Aj (λk=>As (f k)) t)) (ofNat (Aj (λk=>Ar (f k)) t)) t hA hB (Am (h0 _ _)))
    | true =>
     simp only [c2] at h0 ⊢
     exact A7 (Ay hL hL) _ (Ady _ _ n f (ofNat (Aj (λk=>As (f k)) t)) (ofNat (Aj (λk=>Ar (f k)) t)) t hA hB (Am (h0 _ _)))
   | none =>
    rw [c1] at h0
    cases c2:Be (Fr n f) n 0 with
    | some t =>
     rw [c2] at h2
     exact A7 (Ay (Ay hL hL) hL) _ (Adx _ _ _ n f (ofNat (Aj (λk=>As (f k)) n)) (ofNat (Aj (λk=>Ar (f k)) n)) n t hA hB (Am (h0 _ _)) (Am (h2 _ _)))
    | none =>
     rw [c2] at h2
     show _ = some (V.tup [iV (EV n f).1,iV (EV n f).2],[])
     unfold EV
     cases c3:ilt (El n f) 2 with
     | true=>exact A7 (Ay (Ay hL hL) hL) _ (Adw _ _ _ n f (ofNat (Aj (λk=>As (f k)) n)) (ofNat (Aj (λk=>Ar (f k)) n)) n 0 hA hB c3 (Am (h0 _ _)) (Am (h2 _ _)))
     | false =>
      cases c4:ilt (Fo n f) 2 with
      | true=>exact A7 (Ay (Ay hL hL) hL) _ (Adt _ _ _ n f (ofNat (Aj (λk=>As (f k)) n)) (ofNat (Aj (λk=>Ar (f k)) n)) n 0 hA hB c3 c4 (Am (h0 _ _)) (Am (h2 _ _)))
      | false =>
       show _ = some (V.tup [iV (IH n f).1,iV (IH n f).2],[])
       unfold IH crR
       cases c5:Be (AG n (Av (λk=>Ar (f k)) n) (λi=>isW (f i)) 2) n 0 with
       | some t =>
        rw [show (Be (AG n (pM n f) (λi=>isW (f i)) 2) n 0) = some t from c5] at h4
        exact A7 (Ay (Ay (Ay hL hL) hL) hL) _ (Ads _ _ _ _ n f (ofNat (Aj (λk=>As (f k)) n)) (ofNat (Aj (λk=>Ar (f k)) n)) n 0 t hA hB c3 c4 hF (Am (h0 _ _)) (Am (h2 _ _)) (Am (h4 _ _)))
       | none =>
        rw [show (Be (AG n (pM n f) (λi=>isW (f i)) 2) n 0) = none from c5] at h4
        cases c6:Be (AG n (Av (λk=>As (f k)) n) (λ_=>true) 12) n 0 with
        | some t =>
         rw [show (Be (AG n (pO n f) (λ_=>true) 12) n 0) = some t from c6] at h6
         exact A7 (Ay (Ay (Ay (Ay hL hL) hL) hL) hL) _ (Ad0 _ _ _ _ _ n f (ofNat (Aj (λk=>As (f k)) n)) (ofNat (Aj (λk=>Ar (f k)) n)) n 0 0 t hA hB c3 c4 hF (Am (h0 _ _)) (Am (h2 _ _)) (Am (h4 _ _)) (Am (h6 _ _)))
        | none =>
         rw [show (Be (AG n (pO n f) (λ_=>true) 12) n 0) = none from c6] at h6
         exact A7 (Ay (Ay (Ay (Ay hL hL) hL) hL) hL) _ (Adr _ _ _ _ _ n f (ofNat (Aj (λk=>As (f k)) n)) (ofNat (Aj (λk=>Ar (f k)) n)) n 0 0 0 hA hB c3 c4 hF (Am (h0 _ _)) (Am (h2 _ _)) (Am (h4 _ _)) (Am (h6 _ _)))
def K0 (n:Nat) (_:Nat->E6):Lp:=⟨(bmK 133 0 [0,1,4,5,6,7,8,9]),0,bmK 133 0 [1,4,5,6,7,8],0,n+1⟩
def CX (n:Nat) (f:Nat->E6) (x y:Int) (i:Nat) (j:Nat->V):St:=⟨(jsV 133 0 j [(0,iV 2),(1,.sl 6 n (λi=>eV (f i))),(4,iV 0),(5,iV 0),(6,nV n),(7,iV x),(8,iV y),(9,nV i)]),[]⟩
def Cq (n:Nat) (f:Nat->E6) (x y:Int) (_:Nat):Ex × St:=(.ex 0,⟨(jsV 133 0 (λ_=>.und) [(1,.sl 6 n (λi=>eV (f i))),(4,iV 0),(5,iV 0),(6,nV n),(7,iV x),(8,iV y)]),[]⟩)
def Rk (n:Nat) (f:Nat->E6) (x y:Int) (i:Nat):Ex × St:=(.rt,⟨(jsV 133 0 (λ_=>.und) [(1,.sl 6 n (λi=>eV (f i))),(4,iV 30),(5,nV i),(6,nV n),(7,iV x),(8,iV y)]),[]⟩)
def Rj (n:Nat) (f:Nat->E6) (x y:Int) (i:Nat):Ex × St:=(.rt,⟨(jsV 133 0 (λ_=>.und) [(1,.sl 6 n (λi=>eV (f i))),(4,iV 5),(5,nV i),(6,nV n),(7,iV x),(8,iV y)]),[]⟩)
noncomputable def B8 (L:LT):St->T (Ex × St):=λst=>AF tab ⟨Ap Dc,L,Gl⟩ (A1 Try.f19 0) 0 st
section
variable (L:LT) (n:Nat) (f:Nat->E6) (x y:Int) (i:Nat)  (j:Nat->V)
include L n f x y i j
theorem Agj (h0:ilt (ofNat i) (ofNat n) = false):Ai (B8 L) (K0 n f) (CX n f x y i j) = some ((.ex 0),⟨(jsV 133 0 (λ_=>.und) [(1,(.sl 6 n (λi=>eV (f i)))),(4,(iV 0)),(5,(iV 0)),(6,(nV n)),(7,(iV x)),(8,(iV y))]),[]⟩):=Aa [false] [ilt (ofNat i) (ofNat n)] (by kernel_rfl) (by simp only [h0] <;> rfl)
theorem Agi (h0:ilt (ofNat i) (ofNat n) = true) (h1:Af (ile 0 (ofNat i)) (ilt (ofNat i) (ofNat n)) = true) (h2:ieq (AR (f i)) 0 = false):Ai (B8 L) (K0 n f) (CX n f x y i j) = some (.rt,⟨(jsV 133 0 (λ_=>.und) [(1,(.sl 6 n (λi=>eV (f i)))),(4,(iV 30)),(5,(nV i)),(6,(nV n)),(7,(iV x)),(8,(iV y))]),[]⟩):=Aa [true,true,true] [ilt (ofNat i) (ofNat n),Af (ile 0 (ofNat i)) (ilt (ofNat i) (ofNat n)),An (ieq (AR (f i)) 0)] (by kernel_rfl) (by simp only [h1] <;> simp only [h0,h2] <;> rfl)
theorem Agh (h0:ilt (ofNat i) (ofNat n) = true) (h1:Af (ile 0 (ofNat i)) (ilt (ofNat i) (ofNat n)) = true) (h2:ieq (AR (f i)) 0 = true) (h3:DJ 2 (f i) = false):Ai (B8 L) (K0 n f) (CX n f x y i j) = some (.rt,⟨(jsV 133 0 (λ_=>.und) [(1,(.sl 6 n (λi=>eV (f i)))),(4,(iV 5)),(5,(nV i)),(6,(nV n)),(7,(iV x)),(8,(iV y))]),[]⟩):=Aa [true,true,false,true,true] ((λc0=>[ilt (ofNat i) (ofNat n),c0,An (ieq (AR (f i)) 0),c0,An (DJ 2 (f i))]) (Af (ile 0 (ofNat i)) (ilt (ofNat i) (ofNat n)))) (by kernel_rfl) (by simp only [h1] <;> simp only [*] <;> rfl)
theorem Abr (h0:ilt (ofNat i) (ofNat n) = true) (h1:Af (ile 0 (ofNat i)) (ilt (ofNat i) (ofNat n)) = true) (h2:ieq (AR (f i)) 0 = true) (h3:DJ 2 (f i) = true) (h4:As (f i) = false) (h5:Ar (f i) = false):Ai (B8 L) (K0 n f) (CX n f x y i j) = some (.nm,⟨(jsV 133 0 (λ_=>.und) [(0,(iV 2)),(1,(.sl 6 n (λi=>eV (f i)))),(4,(iV 0)),(5,(iV 0)),(6,(nV n)),(7,(iV x)),(8,(iV y)),(9,(iV (wr .i64 (Ae (ofNat i) 1))))]),[]⟩):=Aa (bbK 9 171) ((λc0=>[ilt (ofNat i) (ofNat n),c0,An (ieq (AR (f i)) 0),c0,An (DJ 2 (f i)),c0,As (f i),c0,Ar (f i)]) (Af (ile 0 (ofNat i)) (ilt (ofNat i) (ofNat n)))) (by kernel_rfl) (by simp only [h1] <;> simp only [*] <;> rfl)
theorem Abs (h0:ilt (ofNat i) (ofNat n) = true) (h1:Af (ile 0 (ofNat i)) (ilt (ofNat i) (ofNat n)) = true) (h2:ieq (AR (f i)) 0 = true) (h3:DJ 2 (f i) = true) (h4:As (f i) = false) (h5:Ar (f i) = true):Ai (B8 L) (K0 n f) (CX n f x y i j) = some (.nm,⟨(jsV 133 0 (λ_=>.und) [(0,(iV 2)),(1,(.sl 6 n (λi=>eV (f i)))),(4,(iV 0)),(5,(iV 0)),(6,(nV n)),(7,(iV x)),(8,(iV (wr .i64 (Ae y 1)))),(9,(iV (wr .i64 (Ae (ofNat i) 1))))]),[]⟩):=Aa (bbK 9 427) ((λc0=>[ilt (ofNat i) (ofNat n),c0,An (ieq (AR (f i)) 0),c0,An (DJ 2 (f i)),c0,As (f i),c0,Ar (f i)]) (Af (ile 0 (ofNat i)) (ilt (ofNat i) (ofNat n)))) (by kernel_rfl) (by simp only [h1] <;> simp only [*] <;> rfl)
theorem Abp (h0:ilt (ofNat i) (ofNat n) = true) (h1:Af (ile 0 (ofNat i)) (ilt (ofNat i) (ofNat n)) = true) (h2:ieq (AR (f i)) 0 = true) (h3:DJ 2 (f i) = true) (h4:As (f i) = true) (h5:Ar (f i) = false):Ai (B8 L) (K0 n f) (CX n f x y i j) = some (.nm,⟨(jsV 133 0 (λ_=>.und) [(0,(iV 2)),(1,(.sl 6 n (λi=>eV (f i)))),(4,(iV 0)),(5,(iV 0)),(6,(nV n)),(7,(iV (wr .i64 (Ae x 1)))),(8,(iV y)),(9,(iV (wr .i64 (Ae (ofNat i) 1))))]),[]⟩):=Aa (bbK 9 235) ((λc0=>[ilt (ofNat i) (ofNat n),c0,An (ieq (AR (f i)) 0),c0,An (DJ 2 (f i)),c0,As (f i),c0,Ar (f i)]) (Af (ile 0 (ofNat i)) (ilt (ofNat i) (ofNat n)))) (by kernel_rfl) (by simp only [h1] <;> simp only [*] <;> rfl)
theorem Abq (h0:ilt (ofNat i) (ofNat n) = true) (h1:Af (ile 0 (ofNat i)) (ilt (ofNat i) (ofNat n)) = true) (h2:ieq (AR (f i)) 0 = true) (h3:DJ 2 (f i) = true) (h4:As (f i) = true) (h5:Ar (f i) = true):Ai (B8 L) (K0 n f) (CX n f x y i j) = some (.nm,⟨(jsV 133 0 (λ_=>.und) [(0,(iV 2)),(1,(.sl 6 n (λi=>eV (f i)))),(4,(iV 0)),(5,(iV 0)),(6,(nV n)),(7,(iV (wr .i64 (Ae x 1)))),(8,(iV (wr .i64 (Ae y 1)))),(9,(iV (wr .i64 (Ae (ofNat i) 1))))]),[]⟩):=Aa (bbK 9 491) ((λc0=>[ilt (ofNat i) (ofNat n),c0,An (ieq (AR (f i)) 0),c0,An (DJ 2 (f i)),c0,As (f i),c0,Ar (f i)]) (Af (ile 0 (ofNat i)) (ilt (ofNat i) (ofNat n)))) (by kernel_rfl) (by simp only [h1] <;> simp only [*] <;> rfl)
end
def Fu (n:Nat) (f:Nat->E6) :Nat->V:=lkV AA [(17,(iV 2)),(18,(bV (An (ieq 2 1)))),(19,(bV (An (ieq 2 1)))),(20,(iV 2)),(21,(bV (An (ieq 2 2)))),(22,(bV (An (ieq 2 2)))),(23,(.sl 6 n (λi=>eV (f i)))),(24,(nV n)),(25,(nV n)),(26,(bV (ilt (ofNat n) 2))),(27,(bV (ilt (ofNat n) 2))),(28,(nV n)),(29,(bV (ilt 16 (ofNat n)))),(30,(bV (ilt 16 (ofNat n))))]
def K4 (n:Nat) (_:Nat->E6):Lp:=⟨(bmK 133 0 [1,4,5,6,7,8,12]),0,bmK 133 0 [1,4,5,6,7,8],0,n+1⟩
def C4 (n:Nat) (f:Nat->E6) (x y:Int) (i:Nat) (j:Nat->V):St:=⟨(jsV 133 0 j [(1,.sl 6 n (λi=>eV (f i))),(4,iV 0),(5,iV 0),(6,nV n),(7,iV x),(8,iV y),(12,nV i)]),[]⟩
def BU (n:Nat) (f:Nat->E6) (x y:Int) (_:Nat):Ex × St:=(.ex 2,⟨(jsV 133 0 (λ_=>.und) [(1,.sl 6 n (λi=>eV (f i))),(4,iV 0),(5,iV 0),(6,nV n),(7,iV x),(8,iV y)]),[]⟩)
def Hg (n:Nat) (f:Nat->E6) (x y:Int) (i:Nat):Ex × St:=(.rt,⟨(jsV 133 0 (λ_=>.und) [(1,.sl 6 n (λi=>eV (f i))),(4,iV 41),(5,nV i),(6,nV n),(7,iV x),(8,iV y)]),[]⟩)
noncomputable def BH (L:LT):St->T (Ex × St):=λst=>AF tab ⟨Ap Dc,L,Gl⟩ (A1 Try.f19 2) 2 st
section
variable (L:LT) (n:Nat) (f:Nat->E6) (x y:Int) (i:Nat)  (j:Nat->V)
include L n f x y i j
theorem Agc (h0:ilt (ofNat i) (ofNat n) = false):Ai (BH L) (K4 n f) (C4 n f x y i j) = some ((.ex 2),⟨(jsV 133 0 (λ_=>.und) [(1,(.sl 6 n (λi=>eV (f i)))),(4,(iV 0)),(5,(iV 0)),(6,(nV n)),(7,(iV x)),(8,(iV y))]),[]⟩):=Aa [false] [ilt (ofNat i) (ofNat n)] (by kernel_rfl) (by simp only [h0] <;> rfl)
theorem Agb (h0:ilt (ofNat i) (ofNat n) = true) (h1:Af (ile 0 (ofNat i)) (ilt (ofNat i) (ofNat n)) = true) (h2:ieq (ofNat n) 0 = false) (h3:Af (ile 0 (Ab (wr .i64 (Ae (ofNat i) 1)) (ofNat n))) (ilt (Ab (wr .i64 (Ae (ofNat i) 1)) (ofNat n)) (ofNat n)) = true) (h4:ieq ((f i)).dst ((f (toN (Ab (wr .i64 (Ae (ofNat i) 1)) (ofNat n))))).src = false):Ai (BH L) (K4 n f) (C4 n f x y i j) = some (.rt,⟨(jsV 133 0 (λ_=>.und) [(1,(.sl 6 n (λi=>eV (f i)))),(4,(iV 41)),(5,(nV i)),(6,(nV n)),(7,(iV x)),(8,(iV y))]),[]⟩):=Aa [true,true,false,true,true] [ilt (ofNat i) (ofNat n),Af (ile 0 (ofNat i)) (ilt (ofNat i) (ofNat n)),ieq (ofNat n) 0,Af (ile 0 (Ab (wr .i64 (Ae (ofNat i) 1)) (ofNat n))) (ilt (Ab (wr .i64 (Ae (ofNat i) 1)) (ofNat n)) (ofNat n)),An (ieq ((f i)).dst ((f (toN (Ab (wr .i64 (Ae (ofNat i) 1)) (ofNat n))))).src)] (by kernel_rfl) (by simp only [h1,h3] <;> simp only [*] <;> rfl)
theorem Aga (h0:ilt (ofNat i) (ofNat n) = true) (h1:Af (ile 0 (ofNat i)) (ilt (ofNat i) (ofNat n)) = true) (h2:ieq (ofNat n) 0 = false) (h3:Af (ile 0 (Ab (wr .i64 (Ae (ofNat i) 1)) (ofNat n))) (ilt (Ab (wr .i64 (Ae (ofNat i) 1)) (ofNat n)) (ofNat n)) = true) (h4:ieq ((f i)).dst ((f (toN (Ab (wr .i64 (Ae (ofNat i) 1)) (ofNat n))))).src = true):Ai (BH L) (K4 n f) (C4 n f x y i j) = some (.nm,⟨(jsV 133 0 (λ_=>.und) [(1,(.sl 6 n (λi=>eV (f i)))),(4,(iV 0)),(5,(iV 0)),(6,(nV n)),(7,(iV x)),(8,(iV y)),(12,(iV (wr .i64 (Ae (ofNat i) 1))))]),[]⟩):=Aa [true,true,false,true,false] [ilt (ofNat i) (ofNat n),Af (ile 0 (ofNat i)) (ilt (ofNat i) (ofNat n)),ieq (ofNat n) 0,Af (ile 0 (Ab (wr .i64 (Ae (ofNat i) 1)) (ofNat n))) (ilt (Ab (wr .i64 (Ae (ofNat i) 1)) (ofNat n)) (ofNat n)),An (ieq ((f i)).dst ((f (toN (Ab (wr .i64 (Ae (ofNat i) 1)) (ofNat n))))).src)] (by kernel_rfl) (by simp only [h1,h3] <;> simp only [*] <;> rfl)
end
def DE (_:Nat) (_:Nat->E6) (_ _:Int) (_:Nat):Nat->V:=lkV AA [(0,.und),(2,.und),(3,.und),(9,.und),(10,.und),(11,.und),(13,.und),(14,.und),(15,.und),(16,.und),(17,.und),(18,.und),(19,.und),(20,.und),(21,.und),(22,.und),(23,.und),(24,.und),(25,.und),(26,.und),(27,.und),(28,.und),(29,.und),(30,.und),(31,.und),(32,.und),(33,.und),(34,.und),(35,.und),(36,.und),(37,.und),(38,.und),(39,.und),(40,.und),(41,.und),(42,.und),(43,.und),(44,.und),(45,.und),(46,.und),(47,.und),(48,.und),(49,.und),(50,.und),(51,.und),(52,.und),(53,.und),(54,.und),(55,.und),(56,.und),(57,.und),(58,.und),(59,.und),(60,.und),(61,.und),(62,.und),(63,.und),(64,.und),(65,.und),(66,.und),(67,.und),(68,.und),(69,.und),(70,.und),(71,.und),(72,.und),(73,.und),(74,.und),(75,.und),(76,.und),(77,.und),(78,.und),(79,.und),(80,.und),(81,.und),(82,.und),(83,.und),(84,.und),(85,.und),(86,.und),(87,.und),(88,.und),(89,.und),(90,.und),(91,.und),(92,.und),(93,.und),(94,.und),(95,.und),(96,.und),(97,.und),(98,.und),(99,.und),(100,.und),(101,.und),(102,.und),(103,.und),(104,.und),(105,.und),(106,.und),(107,.und),(108,.und),(109,.und),(110,.und),(111,.und),(112,.und),(113,.und),(114,.und),(115,.und),(116,.und),(117,.und),(118,.und),(119,.und),(120,.und),(121,.und),(122,.und),(123,.und),(124,.und),(125,.und),(126,.und),(127,.und),(128,.und),(129,.und),(130,.und),(131,.und),(132,.und)]
def Jn (n:Nat) (_:Nat->E6):Lp:=⟨(bmK 133 0 [1,4,5,6,13,14,15]),2,bmK 133 0 [1,4,5,6,13],2,n+1⟩
def Ec (n:Nat) (f:Nat->E6) (u v:Nat->Int) (i:Nat) (j:Nat->V):St:=⟨(jsV 133 0 j [(1,.sl 6 n (λi=>eV (f i))),(4,iV 0),(5,iV 0),(6,nV n),(13,.ref 0),(14,.ref 1),(15,nV i)]),[.row 3 1 n (λk=>iV (u k)),.row 3 1 n (λk=>iV (v k))]⟩
def IG (n:Nat) (f:Nat->E6) (u v:Nat->Int) (_:Nat):Ex × St:=(.ex 4,⟨(jsV 133 0 (λ_=>.und) [(1,.sl 6 n (λi=>eV (f i))),(4,iV 0),(5,iV 0),(6,nV n),(13,.ref 0)]),[.row 3 1 n (λk=>iV (u k)),.row 3 1 n (λk=>iV (v k))]⟩)
def O0 (n:Nat) (f:Nat->E6) (u v:Nat->Int) (i:Nat):Ex × St:=(.rt,⟨(jsV 133 0 (λ_=>.und) [(1,.sl 6 n (λi=>eV (f i))),(4,iV 44),(5,nV i),(6,nV n),(13,.ref 0)]),[.row 3 1 n (λk=>iV (u k)),.row 3 1 n (λk=>iV (v k))]⟩)
noncomputable def CB (L:LT):St->T (Ex × St):=λst=>AF tab ⟨Ap Dc,L,Gl⟩ (A1 Try.f19 4) 4 st
section
variable (L:LT) (n:Nat) (f:Nat->E6) (u v:Nat->Int) (i:Nat)  (j:Nat->V)
include L n f u v i j
theorem Af0 (h0:ilt (ofNat i) (ofNat n) = false):Ai (CB L) (Jn n f) (Ec n f u v i j) = some ((.ex 4),⟨(jsV 133 0 (λ_=>.und) [(1,(.sl 6 n (λi=>eV (f i)))),(4,(iV 0)),(5,(iV 0)),(6,(nV n)),(13,(.ref 0))]),[.row 3 1 n (λk=>iV (u k)),.row 3 1 n (λk=>iV (v k))]⟩):=Aa [false] [ilt (ofNat i) (ofNat n)] (by kernel_rfl) (by simp only [h0] <;> rfl)
theorem Af3 (h0:ilt (ofNat i) (ofNat n) = true) (h1:Af (ile 0 (ofNat i)) (ilt (ofNat i) (ofNat n)) = true) (h2:ieq ((f i)).src 2 = false):Ai (CB L) (Jn n f) (Ec n f u v i j) = some (.nm,⟨(jsV 133 0 (λ_=>.und) [(1,(.sl 6 n (λi=>eV (f i)))),(4,(iV 0)),(5,(iV 0)),(6,(nV n)),(13,(.ref 0)),(14,(.ref 1)),(15,(iV (wr .i64 (Ae (ofNat i) 1))))]),[.row 3 1 n (λk=>iV (u k)),.row 3 1 n (λk=>iV (v k))]⟩):=Aa (bbK 12 3) ((λc0=>[ilt (ofNat i) (ofNat n),Af (ile 0 (ofNat i)) (ilt (ofNat i) (ofNat n)),c0,c0,c0,c0,c0,c0,c0,c0,c0,false]) (ieq ((f i)).src 2)) (by kernel_rfl) (by simp only [h1] <;> simp only [h0,h2] <;> rfl)
theorem Af2 (h0:ilt (ofNat i) (ofNat n) = true) (h1:Af (ile 0 (ofNat i)) (ilt (ofNat i) (ofNat n)) = true) (h2:ieq ((f i)).src 2 = true) (h15:nlt i n = true) (h3:A3 n n = true) (h4:Ah n = true) (h5:ilt 2 (Em n v (λi=>bor (An true) (isW (f i))) (v i)) = false):Ai (CB L) (Jn n f) (Ec n f u v i j) = some (.nm,⟨(jsV 133 0 (λ_=>.und) [(1,(.sl 6 n (λi=>eV (f i)))),(4,(iV 0)),(5,(iV 0)),(6,(nV n)),(13,(.ref 0)),(14,(.ref 1)),(15,(iV (wr .i64 (Ae (ofNat i) 1))))]),[.row 3 1 n (λk=>iV (u k)),.row 3 1 n (λk=>iV (v k))]⟩):=Aa (bbK 18 131071) ((λc0 c1 c2=>[ilt (ofNat i) (ofNat n),c0,c1,c1,c1,c1,c1,c0,c1,nlt i n,c1,c2,c2,A3 n n,Ah n,c1,c1,ilt 2 (Em n v (λi=>bor (An true) (isW (f i))) (v i))]) (Af (ile 0 (ofNat i)) (ilt (ofNat i) (ofNat n))) (ieq ((f i)).src 2) (Au n (λ_=>true))) (by kernel_rfl) (by simp only [h1] <;> simp only [*,Aw] <;> rfl)
theorem Af1 (h0:ilt (ofNat i) (ofNat n) = true) (h1:Af (ile 0 (ofNat i)) (ilt (ofNat i) (ofNat n)) = true) (h2:ieq ((f i)).src 2 = true) (h15:nlt i n = true) (h3:A3 n n = true) (h4:Ah n = true) (h5:ilt 2 (Em n v (λi=>bor (An true) (isW (f i))) (v i)) = true):Ai (CB L) (Jn n f) (Ec n f u v i j) = some (.rt,⟨(jsV 133 0 (λ_=>.und) [(1,(.sl 6 n (λi=>eV (f i)))),(4,(iV 44)),(5,(nV i)),(6,(nV n)),(13,(.ref 0))]),[.row 3 1 n (λk=>iV (u k)),.row 3 1 n (λk=>iV (v k))]⟩):=Aa (bbK 18 262143) ((λc0 c1 c2=>[ilt (ofNat i) (ofNat n),c0,c1,c1,c1,c1,c1,c0,c1,nlt i n,c1,c2,c2,A3 n n,Ah n,c1,c1,ilt 2 (Em n v (λi=>bor (An true) (isW (f i))) (v i))]) (Af (ile 0 (ofNat i)) (ilt (ofNat i) (ofNat n))) (ieq ((f i)).src 2) (Au n (λ_=>true))) (by kernel_rfl) (by simp only [h1] <;> simp only [*,Aw] <;> rfl)
end
def Jt (n:Nat) (f:Nat->E6) (x y:Int) (_ _:Nat):Nat->V:=lkV AA [(0,.und),(2,.und),(3,.und),(7,(iV x)),(8,(iV y)),(9,.und),(10,.und),(11,.und),(12,.und),(16,.und),(17,.und),(18,.und),(19,.und),(20,.und),(21,.und),(22,.und),(23,.und),(24,.und),(25,.und),(26,.und),(27,.und),(28,.und),(29,.und),(30,.und),(31,.und),(32,.und),(33,.und),(34,.und),(35,.und),(36,.und),(37,.und),(38,.und),(39,.und),(40,.und),(41,.und),(42,.und),(43,.und),(44,.und),(45,.und),(46,.und),(47,.und),(48,.und),(49,.und),(50,.und),(51,.und),(52,.und),(53,.und),(54,.und),(55,.und),(56,.und),(57,.und),(58,.und),(59,.und),(60,.und),(61,.und),(62,.und),(63,.und),(64,.und),(65,.und),(66,.und),(67,.und),(68,.und),(69,.und),(70,.und),(71,.und),(72,.und),(73,.und),(74,.und),(75,.und),(76,.und),(77,.und),(78,.und),(79,.und),(80,.und),(81,.und),(82,.und),(83,.und),(84,.und),(85,.und),(86,.und),(87,.und),(88,.und),(89,(iV x)),(90,(bV (ilt x 2))),(91,(iV y)),(92,(bV (ilt y 2))),(93,(.sl 6 n (λi=>eV (f i)))),(94,(.ref 0)),(95,(.sl 6 n (λi=>eV (f i)))),(96,(.ref 1)),(97,.und),(98,.und),(99,.und),(100,.und),(101,.und),(102,.und),(103,.und),(104,.und),(105,.und),(106,.und),(107,.und),(108,.und),(109,.und),(110,.und),(111,.und),(112,.und),(113,.und),(114,.und),(115,.und),(116,.und),(117,.und),(118,.und),(119,.und),(120,.und),(121,.und),(122,.und),(123,.und),(124,.und),(125,.und),(126,.und),(127,.und),(128,.und),(129,.und),(130,.und),(131,.und),(132,.und)]
def K2 (n:Nat) (_:Nat->E6):Lp:=⟨(bmK 133 0 [1,4,5,6,13,16]),2,bmK 133 0 [4,5],0,n+1⟩
def Gf (n:Nat) (f:Nat->E6) (u v:Nat->Int) (i:Nat) (j:Nat->V):St:=⟨(jsV 133 0 j [(1,.sl 6 n (λi=>eV (f i))),(4,iV 0),(5,iV 0),(6,nV n),(13,.ref 0),(16,nV i)]),[.row 3 1 n (λk=>iV (u k)),.row 3 1 n (λk=>iV (v k))]⟩
def Ox (_:Nat) (_:Nat->E6) (_ _:Nat->Int) (_:Nat):Ex × St:=(.ex 6,⟨(jsV 133 0 (λ_=>.und) [(4,iV 0),(5,iV 0)]),[]⟩)
def Oy (_:Nat) (_:Nat->E6) (_ _:Nat->Int) (i:Nat):Ex × St:=(.rt,⟨(jsV 133 0 (λ_=>.und) [(4,iV 45),(5,nV i)]),[]⟩)
noncomputable def DX (L:LT):St->T (Ex × St):=λst=>AF tab ⟨Ap Dc,L,Gl⟩ (A1 Try.f19 6) 6 st
section
variable (L:LT) (n:Nat) (f:Nat->E6) (u v:Nat->Int) (i:Nat)  (j:Nat->V)
include L n f u v i j
theorem Afg (h0:ilt (ofNat i) (ofNat n) = false):Ai (DX L) (K2 n f) (Gf n f u v i j) = some ((.ex 6),⟨(jsV 133 0 (λ_=>.und) [(4,(iV 0)),(5,(iV 0))]),[]⟩):=Aa [false] [ilt (ofNat i) (ofNat n)] (by kernel_rfl) (by simp only [h0] <;> rfl)
theorem Afi (h0:ilt (ofNat i) (ofNat n) = true) (h1:Af (ile 0 (ofNat i)) (ilt (ofNat i) (ofNat n)) = true) (h14:nlt i n = true) (h2:A3 n n = true) (h3:Ah n = true) (h4:ilt 12 (Em n u (λi=>bor (An false) (isW (f i))) (u i)) = false):Ai (DX L) (K2 n f) (Gf n f u v i j) = some (.nm,⟨(jsV 133 0 (λ_=>.und) [(1,(.sl 6 n (λi=>eV (f i)))),(4,(iV 0)),(5,(iV 0)),(6,(nV n)),(13,(.ref 0)),(16,(iV (wr .i64 (Ae (ofNat i) 1))))]),[.row 3 1 n (λk=>iV (u k)),.row 3 1 n (λk=>iV (v k))]⟩):=Aa (bbK 8 127) [ilt (ofNat i) (ofNat n),Af (ile 0 (ofNat i)) (ilt (ofNat i) (ofNat n)),nlt i n,Au n (λ_=>true),Au n (λ_=>true),A3 n n,Ah n,ilt 12 (Em n u (λi=>bor (An false) (isW (f i))) (u i))] (by kernel_rfl) (by simp only [h1] <;> simp only [*,Aw] <;> rfl)
theorem Afh (h0:ilt (ofNat i) (ofNat n) = true) (h1:Af (ile 0 (ofNat i)) (ilt (ofNat i) (ofNat n)) = true) (h14:nlt i n = true) (h2:A3 n n = true) (h3:Ah n = true) (h4:ilt 12 (Em n u (λi=>bor (An false) (isW (f i))) (u i)) = true):Ai (DX L) (K2 n f) (Gf n f u v i j) = some (.rt,⟨(jsV 133 0 (λ_=>.und) [(4,(iV 45)),(5,(nV i))]),[]⟩):=Aa (bbK 8 255) [ilt (ofNat i) (ofNat n),Af (ile 0 (ofNat i)) (ilt (ofNat i) (ofNat n)),nlt i n,Au n (λ_=>true),Au n (λ_=>true),A3 n n,Ah n,ilt 12 (Em n u (λi=>bor (An false) (isW (f i))) (u i))] (by kernel_rfl) (by simp only [h1] <;> simp only [*,Aw] <;> rfl)
end
def MI (_:Nat) (_:Nat->E6) (_ _:Int) (_ _:Nat) (_ _:Nat->Int) (_:Nat):Nat->V:=lkV AA [(0,.und),(2,.und),(3,.und),(7,.und),(8,.und),(9,.und),(10,.und),(11,.und),(12,.und),(14,.und),(15,.und),(17,.und),(18,.und),(19,.und),(20,.und),(21,.und),(22,.und),(23,.und),(24,.und),(25,.und),(26,.und),(27,.und),(28,.und),(29,.und),(30,.und),(31,.und),(32,.und),(33,.und),(34,.und),(35,.und),(36,.und),(37,.und),(38,.und),(39,.und),(40,.und),(41,.und),(42,.und),(43,.und),(44,.und),(45,.und),(46,.und),(47,.und),(48,.und),(49,.und),(50,.und),(51,.und),(52,.und),(53,.und),(54,.und),(55,.und),(56,.und),(57,.und),(58,.und),(59,.und),(60,.und),(61,.und),(62,.und),(63,.und),(64,.und),(65,.und),(66,.und),(67,.und),(68,.und),(69,.und),(70,.und),(71,.und),(72,.und),(73,.und),(74,.und),(75,.und),(76,.und),(77,.und),(78,.und),(79,.und),(80,.und),(81,.und),(82,.und),(83,.und),(84,.und),(85,.und),(86,.und),(87,.und),(88,.und),(89,.und),(90,.und),(91,.und),(92,.und),(93,.und),(94,.und),(95,.und),(96,.und),(97,.und),(98,.und),(99,.und),(100,.und),(101,.und),(102,.und),(103,.und),(104,.und),(105,.und),(106,.und),(107,.und),(108,.und),(109,.und),(110,.und),(111,.und),(112,.und),(113,.und),(114,.und),(115,.und),(116,.und),(117,.und),(118,.und),(119,.und),(120,.und),(121,.und),(122,.und),(123,.und),(124,.und),(125,.und),(126,.und),(127,.und),(128,.und),(129,.und),(130,.und),(131,.und),(132,.und)]
section
variable (L:LT) (p0:PT) (n:Nat) (f:Nat->E6) (x y:Int) (i:Nat)
include L p0 n f x y i
theorem Ad9 (h0:ilt (ofNat n) 2 = false) (h1:ilt 16 (ofNat n) = false) (hp0:p0 (B8 (onP 0 p0 (Rk n f x y i) L)) (CX n f 0 0 0 (Fu n f )) = true):(Az (Ak tab ⟨Ap Dc,onP 0 p0 (Rk n f x y i) L,Gl⟩ Try.f19 [iV 2,A4 n f] [])).sem = some ((.tup [iV 30,nV i]),[]):=Aa (bbK 9 263) ((λc0 c1=>[c0,c0,c0,An (ieq 2 2),c1,c1,c1,ilt 16 (ofNat n),p0 (B8 (onP 0 p0 (Rk n f x y i) L)) (CX n f 0 0 0 (Fu n f ))]) (An (ieq 2 1)) (ilt (ofNat n) 2)) (by kernel_rfl) (by simp only [hp0] <;> simp only [h0,h1] <;> rfl)
theorem Ad8 (h0:ilt (ofNat n) 2 = false) (h1:ilt 16 (ofNat n) = false) (hp0:p0 (B8 (onP 0 p0 (Rj n f x y i) L)) (CX n f 0 0 0 (Fu n f )) = true):(Az (Ak tab ⟨Ap Dc,onP 0 p0 (Rj n f x y i) L,Gl⟩ Try.f19 [iV 2,A4 n f] [])).sem = some ((.tup [iV 5,nV i]),[]):=Aa (bbK 9 263) ((λc0 c1=>[c0,c0,c0,An (ieq 2 2),c1,c1,c1,ilt 16 (ofNat n),p0 (B8 (onP 0 p0 (Rj n f x y i) L)) (CX n f 0 0 0 (Fu n f ))]) (An (ieq 2 1)) (ilt (ofNat n) 2)) (by kernel_rfl) (by simp only [hp0] <;> simp only [h0,h1] <;> rfl)
end
section
variable (L:LT) (p0:PT) (p2:PT) (n:Nat) (f:Nat->E6) (x y:Int) (i:Nat) (i2:Nat)
include L p0 p2 n f x y i i2
theorem Ad7 (h0:ilt (ofNat n) 2 = false) (h1:ilt 16 (ofNat n) = false) (hp0:p0 (B8 (onP 0 p0 (Cq n f x y i) (onP 2 p2 (Hg n f x y i2) L))) (CX n f 0 0 0 (Fu n f )) = true) (hp2:p2 (BH (onP 0 p0 (Cq n f x y i) (onP 2 p2 (Hg n f x y i2) L))) (C4 n f x y 0 (DE n f x y i)) = true):(Az (Ak tab ⟨Ap Dc,onP 0 p0 (Cq n f x y i) (onP 2 p2 (Hg n f x y i2) L),Gl⟩ Try.f19 [iV 2,A4 n f] [])).sem = some ((.tup [iV 41,nV i2]),[]):=Aa (bbK 10 775) ((λc0 c1=>[c0,c0,c0,An (ieq 2 2),c1,c1,c1,ilt 16 (ofNat n),p0 (B8 (onP 0 p0 (Cq n f x y i) (onP 2 p2 (Hg n f x y i2) L))) (CX n f 0 0 0 (Fu n f )),p2 (BH (onP 0 p0 (Cq n f x y i) (onP 2 p2 (Hg n f x y i2) L))) (C4 n f x y 0 (DE n f x y i))]) (An (ieq 2 1)) (ilt (ofNat n) 2)) (by kernel_rfl) (by simp only [hp0,hp2] <;> simp only [h0,h1] <;> rfl)
theorem Ad6 (h0:ilt (ofNat n) 2 = false) (h1:ilt 16 (ofNat n) = false) (h2:ilt x 2 = true) (hp0:p0 (B8 (onP 0 p0 (Cq n f x y i) (onP 2 p2 (BU n f x y i2) L))) (CX n f 0 0 0 (Fu n f )) = true) (hp2:p2 (BH (onP 0 p0 (Cq n f x y i) (onP 2 p2 (BU n f x y i2) L))) (C4 n f x y 0 (DE n f x y i)) = true):(Az (Ak tab ⟨Ap Dc,onP 0 p0 (Cq n f x y i) (onP 2 p2 (BU n f x y i2) L),Gl⟩ Try.f19 [iV 2,A4 n f] [])).sem = some ((.tup [iV 42,iV 0]),[]):=Aa (bbK 11 1799) ((λc0 c1=>[c0,c0,c0,An (ieq 2 2),c1,c1,c1,ilt 16 (ofNat n),p0 (B8 (onP 0 p0 (Cq n f x y i) (onP 2 p2 (BU n f x y i2) L))) (CX n f 0 0 0 (Fu n f )),p2 (BH (onP 0 p0 (Cq n f x y i) (onP 2 p2 (BU n f x y i2) L))) (C4 n f x y 0 (DE n f x y i)),ilt x 2]) (An (ieq 2 1)) (ilt (ofNat n) 2)) (by kernel_rfl) (by simp only [hp0,hp2] <;> simp only [*] <;> rfl)
theorem Ad3 (h0:ilt (ofNat n) 2 = false) (h1:ilt 16 (ofNat n) = false) (h2:ilt x 2 = false) (h3:ilt y 2 = true) (hp0:p0 (B8 (onP 0 p0 (Cq n f x y i) (onP 2 p2 (BU n f x y i2) L))) (CX n f 0 0 0 (Fu n f )) = true) (hp2:p2 (BH (onP 0 p0 (Cq n f x y i) (onP 2 p2 (BU n f x y i2) L))) (C4 n f x y 0 (DE n f x y i)) = true):(Az (Ak tab ⟨Ap Dc,onP 0 p0 (Cq n f x y i) (onP 2 p2 (BU n f x y i2) L),Gl⟩ Try.f19 [iV 2,A4 n f] [])).sem = some ((.tup [iV 43,iV 0]),[]):=Aa (bbK 12 2823) ((λc0 c1=>[c0,c0,c0,An (ieq 2 2),c1,c1,c1,ilt 16 (ofNat n),p0 (B8 (onP 0 p0 (Cq n f x y i) (onP 2 p2 (BU n f x y i2) L))) (CX n f 0 0 0 (Fu n f )),p2 (BH (onP 0 p0 (Cq n f x y i) (onP 2 p2 (BU n f x y i2) L))) (C4 n f x y 0 (DE n f x y i)),ilt x 2,ilt y 2]) (An (ieq 2 1)) (ilt (ofNat n) 2)) (by kernel_rfl) (by simp only [hp0,hp2] <;> simp only [*] <;> rfl)
end
noncomputable abbrev Lq (L:LT) (p0:PT) (p2:PT) (p4:PT) (n:Nat) (f:Nat->E6) (x:Int) (y:Int) (i:Nat) (i2:Nat) (i4:Nat):LT:=onP 0 p0 (Cq n f x y i) (onP 2 p2 (BU n f x y i2) (onP 4 p4 (O0 n f (pO n f) (pM n f) i4) L))
theorem Ad2 (L:LT) (p0:PT) (p2:PT) (p4:PT) (n:Nat) (f:Nat->E6) (x y:Int) (i:Nat) (i2 i4:Nat) (h0:ilt (ofNat n) 2 = false) (h1:ilt 16 (ofNat n) = false) (h2:ilt x 2 = false) (h3:ilt y 2 = false) (h4:AN n = true) (hp0:p0 (B8 (Lq L p0 p2 p4 n f x y i i2 i4)) (CX n f 0 0 0 (Fu n f )) = true) (hp2:p2 (BH (Lq L p0 p2 p4 n f x y i i2 i4)) (C4 n f x y 0 (DE n f x y i)) = true) (hp4:p4 (CB (Lq L p0 p2 p4 n f x y i i2 i4)) (Ec n f (pO n f) (pM n f) 0 (Jt n f x y i i2)) = true):(Az (Ak tab ⟨Ap Dc,onP 0 p0 (Cq n f x y i) (onP 2 p2 (BU n f x y i2) (onP 4 p4 (O0 n f (pO n f) (pM n f) i4) L)),Gl⟩ Try.f19 [iV 2,A4 n f] [])).sem = some ((.tup [iV 44,nV i4]),[]):=Aa (bbK 17 127751) ((λc0 c1 c2 c3=>[c0,c0,c0,An (ieq 2 2),c1,c1,c1,ilt 16 (ofNat n),p0 (B8 (Lq L p0 p2 p4 n f x y i i2 i4)) (CX n f 0 0 0 (Fu n f )),p2 (BH (Lq L p0 p2 p4 n f x y i i2 i4)) (C4 n f x y 0 (DE n f x y i)),ilt x 2,ilt y 2,c2,c3,c2,c3,p4 (CB (Lq L p0 p2 p4 n f x y i i2 i4)) (Ec n f (pO n f) (pM n f) 0 (Jt n f x y i i2))]) (An (ieq 2 1)) (ilt (ofNat n) 2) (Au n (λ_=>true)) (AN n)) (by kernel_rfl) (by simp only [hp0,hp2,hp4] <;> simp only [*,Aw] <;> rfl)
section
variable (L:LT) (p0:PT) (p2:PT) (p4:PT) (p6:PT) (n:Nat) (f:Nat->E6) (x y:Int) (i:Nat) (i2 i4 i6:Nat)
include L p0 p2 p4 p6 n f x y i i2 i4 i6
noncomputable abbrev Ix (L:LT) (p0:PT) (p2:PT) (p4:PT) (p6:PT) (n:Nat) (f:Nat->E6) (x:Int) (y:Int) (i:Nat) (i2:Nat) (i4:Nat) (i6:Nat):LT:=onP 0 p0 (Cq n f x y i) (onP 2 p2 (BU n f x y i2) (onP 4 p4 (IG n f (pO n f) (pM n f) i4) (onP 6 p6 (Oy n f (pO n f) (pM n f) i6) L)))
theorem AdA (h0:ilt (ofNat n) 2 = false) (h1:ilt 16 (ofNat n) = false) (h2:ilt x 2 = false) (h3:ilt y 2 = false) (h4:AN n = true) (hp0:p0 (B8 (Ix L p0 p2 p4 p6 n f x y i i2 i4 i6)) (CX n f 0 0 0 (Fu n f )) = true) (hp2:p2 (BH (Ix L p0 p2 p4 p6 n f x y i i2 i4 i6)) (C4 n f x y 0 (DE n f x y i)) = true) (hp4:p4 (CB (Ix L p0 p2 p4 p6 n f x y i i2 i4 i6)) (Ec n f (pO n f) (pM n f) 0 (Jt n f x y i i2)) = true) (hp6:p6 (DX (Ix L p0 p2 p4 p6 n f x y i i2 i4 i6)) (Gf n f (pO n f) (pM n f) 0 (MI n f x y i i2 (pO n f) (pM n f) i4)) = true):(Az (Ak tab ⟨Ap Dc,onP 0 p0 (Cq n f x y i) (onP 2 p2 (BU n f x y i2) (onP 4 p4 (IG n f (pO n f) (pM n f) i4) (onP 6 p6 (Oy n f (pO n f) (pM n f) i6) L))),Gl⟩ Try.f19 [iV 2,A4 n f] [])).sem = some ((.tup [iV 45,nV i6]),[]):=Aa (bbK 18 258823) ((λc0 c1 c2 c3=>[c0,c0,c0,An (ieq 2 2),c1,c1,c1,ilt 16 (ofNat n),p0 (B8 (Ix L p0 p2 p4 p6 n f x y i i2 i4 i6)) (CX n f 0 0 0 (Fu n f )),p2 (BH (Ix L p0 p2 p4 p6 n f x y i i2 i4 i6)) (C4 n f x y 0 (DE n f x y i)),ilt x 2,ilt y 2,c2,c3,c2,c3,p4 (CB (Ix L p0 p2 p4 p6 n f x y i i2 i4 i6)) (Ec n f (pO n f) (pM n f) 0 (Jt n f x y i i2)),p6 (DX (Ix L p0 p2 p4 p6 n f x y i i2 i4 i6)) (Gf n f (pO n f) (pM n f) 0 (MI n f x y i i2 (pO n f) (pM n f) i4))]) (An (ieq 2 1)) (ilt (ofNat n) 2) (Au n (λ_=>true)) (AN n)) (by kernel_rfl) (by simp only [hp0,hp2,hp4,hp6] <;> simp only [*,Aw] <;> rfl)
noncomputable abbrev Iw (L:LT) (p0:PT) (p2:PT) (p4:PT) (p6:PT) (n:Nat) (f:Nat->E6) (x:Int) (y:Int) (i:Nat) (i2:Nat) (i4:Nat) (i6:Nat):LT:=onP 0 p0 (Cq n f x y i) (onP 2 p2 (BU n f x y i2) (onP 4 p4 (IG n f (pO n f) (pM n f) i4) (onP 6 p6 (Ox n f (pO n f) (pM n f) i6) L)))
theorem Ad1 (h0:ilt (ofNat n) 2 = false) (h1:ilt 16 (ofNat n) = false) (h2:ilt x 2 = false) (h3:ilt y 2 = false) (h4:AN n = true) (hp0:p0 (B8 (Iw L p0 p2 p4 p6 n f x y i i2 i4 i6)) (CX n f 0 0 0 (Fu n f )) = true) (hp2:p2 (BH (Iw L p0 p2 p4 p6 n f x y i i2 i4 i6)) (C4 n f x y 0 (DE n f x y i)) = true) (hp4:p4 (CB (Iw L p0 p2 p4 p6 n f x y i i2 i4 i6)) (Ec n f (pO n f) (pM n f) 0 (Jt n f x y i i2)) = true) (hp6:p6 (DX (Iw L p0 p2 p4 p6 n f x y i i2 i4 i6)) (Gf n f (pO n f) (pM n f) 0 (MI n f x y i i2 (pO n f) (pM n f) i4)) = true):(Az (Ak tab ⟨Ap Dc,onP 0 p0 (Cq n f x y i) (onP 2 p2 (BU n f x y i2) (onP 4 p4 (IG n f (pO n f) (pM n f) i4) (onP 6 p6 (Ox n f (pO n f) (pM n f) i6) L))),Gl⟩ Try.f19 [iV 2,A4 n f] [])).sem = some ((.tup [iV 0,iV 0]),[]):=Aa (bbK 18 258823) ((λc0 c1 c2 c3=>[c0,c0,c0,An (ieq 2 2),c1,c1,c1,ilt 16 (ofNat n),p0 (B8 (Iw L p0 p2 p4 p6 n f x y i i2 i4 i6)) (CX n f 0 0 0 (Fu n f )),p2 (BH (Iw L p0 p2 p4 p6 n f x y i i2 i4 i6)) (C4 n f x y 0 (DE n f x y i)),ilt x 2,ilt y 2,c2,c3,c2,c3,p4 (CB (Iw L p0 p2 p4 p6 n f x y i i2 i4 i6)) (Ec n f (pO n f) (pM n f) 0 (Jt n f x y i i2)),p6 (DX (Iw L p0 p2 p4 p6 n f x y i i2 i4 i6)) (Gf n f (pO n f) (pM n f) 0 (MI n f x y i i2 (pO n f) (pM n f) i4))]) (An (ieq 2 1)) (ilt (ofNat n) 2) (Au n (λ_=>true)) (AN n)) (by kernel_rfl) (by simp only [hp0,hp2,hp4,hp6] <;> simp only [*,Aw] <;> rfl)
end
section
variable (L:LT) (n:Nat) (f:Nat->E6)
include L n f
theorem Ad5 (h0:ilt (ofNat n) 2 = true):(Az (Ak tab ⟨Ap Dc,L,Gl⟩ Try.f19 [iV 2,A4 n f] [])).sem = some ((.tup [iV 40,iV 0]),[]):=Aa (bbK 8 247) ((λc0 c1=>[c0,c0,c0,An (ieq 2 2),c1,c1,c1,true]) (An (ieq 2 1)) (ilt (ofNat n) 2)) (by kernel_rfl) (by simp only [h0] <;> rfl)
theorem Ad4 (h0:ilt (ofNat n) 2 = false) (h1:ilt 16 (ofNat n) = true):(Az (Ak tab ⟨Ap Dc,L,Gl⟩ Try.f19 [iV 2,A4 n f] [])).sem = some ((.tup [iV 40,iV 0]),[]):=Aa (bbK 8 135) ((λc0 c1=>[c0,c0,c0,An (ieq 2 2),c1,c1,c1,ilt 16 (ofNat n)]) (An (ieq 2 1)) (ilt (ofNat n) 2)) (by kernel_rfl) (by simp only [h0,h1] <;> rfl)
end
theorem Ny (L:LT) (n:Nat) (f:Nat->E6) (hn:n <= 4611686018427387904):∀ (d i:Nat) (j:Nat->V) (q:Nat),n = i+d->d < q ->
  (A9 (B8 L) (K0 n f) q (CX n f (ofNat (Aj (λk=>As (f k)) i)) (ofNat (Aj (λk=>Ar (f k)) i)) i j)).sem = some (match Be (C2 2 f) d i with
   | none=>Cq n f (ofNat (Aj (λk=>As (f k)) n)) (ofNat (Aj (λk=>Ar (f k)) n)) n
   | some t=>match ieq (D9 2 (f t)) 0 with
    | false=>Rk n f (ofNat (Aj (λk=>As (f k)) t)) (ofNat (Aj (λk=>Ar (f k)) t)) t
    | true=>Rj n f (ofNat (Aj (λk=>As (f k)) t)) (ofNat (Aj (λk=>Ar (f k)) t)) t)
 | 0,i,j,q+1,h,_=>by
  have:n = i:=by omega
  subst this
  exact Ad (Agj L n f (ofNat (Aj (λk=>As (f k)) n)) (ofNat (Aj (λk=>Ar (f k)) n)) n j (AD (Nat.le_refl _)))
 | d+1,i,j,q+1,h,h2=>by
  have hl:i < n:=by omega
  have ho:=AX (λk=>As (f k)) i
  have hm:=AX (λk=>Ar (f k)) i
  cases c1:ieq (AR (f i)) 0 with
  | false =>
   have c1':ieq (D9 2 (f i)) 0 = false:=c1
   rw [BZ (show C2 2 f i = true by rw [C2,c1']; rfl)]
   simp only [c1']
   exact Ad (Agi L n f (ofNat (Aj (λk=>As (f k)) i)) (ofNat (Aj (λk=>Ar (f k)) i)) i j (ofNat_lt hl) (Aq hl) c1)
  | true =>
   have c1':ieq (D9 2 (f i)) 0 = true:=c1
   cases c2:DJ 2 (f i) with
   | false =>
    rw [BZ (show C2 2 f i = true by rw [C2,c1',c2]; rfl)]
    simp only [c1']
    exact Ad (Agh L n f (ofNat (Aj (λk=>As (f k)) i)) (ofNat (Aj (λk=>Ar (f k)) i)) i j (ofNat_lt hl) (Aq hl) c1 c2)
   | true =>
    cases c3:As (f i) with
    | false =>
     cases c4:Ar (f i) with
     | false =>
      rw [Bz (show C2 2 f i = false by rw [C2,show ieq (D9 2 (f i)) 0 = true from c1,c2]; rfl),Ad (Abr L n f (ofNat (Aj (λk=>As (f k)) i)) (ofNat (Aj (λk=>Ar (f k)) i)) i j (ofNat_lt hl) (Aq hl) c1 c2 c3 c4),Ax,Ao hl hn,<- Br (p:=(λk=>As (f k))) c3,<- Br (p:=(λk=>Ar (f k))) c4]
      exact Ny L n f hn d (i+1) (λ_=>.und) q (by omega) (by omega)
     | true =>
      rw [Bz (show C2 2 f i = false by rw [C2,show ieq (D9 2 (f i)) 0 = true from c1,c2]; rfl),Ad (Abs L n f (ofNat (Aj (λk=>As (f k)) i)) (ofNat (Aj (λk=>Ar (f k)) i)) i j (ofNat_lt hl) (Aq hl) c1 c2 c3 c4),Ax,Ao hl hn,Ao (show Aj (λk=>Ar (f k)) i < n by omega) hn,<- Br (p:=(λk=>As (f k))) c3,<- Bi (p:=(λk=>Ar (f k))) c4]
      exact Ny L n f hn d (i+1) (λ_=>.und) q (by omega) (by omega)
    | true =>
     cases c4:Ar (f i) with
     | false =>
      rw [Bz (show C2 2 f i = false by rw [C2,show ieq (D9 2 (f i)) 0 = true from c1,c2]; rfl),Ad (Abp L n f (ofNat (Aj (λk=>As (f k)) i)) (ofNat (Aj (λk=>Ar (f k)) i)) i j (ofNat_lt hl) (Aq hl) c1 c2 c3 c4),Ax,Ao hl hn,Ao (show Aj (λk=>As (f k)) i < n by omega) hn,<- Bi (p:=(λk=>As (f k))) c3,<- Br (p:=(λk=>Ar (f k))) c4]
      exact Ny L n f hn d (i+1) (λ_=>.und) q (by omega) (by omega)
     | true =>
      rw [Bz (show C2 2 f i = false by rw [C2,show ieq (D9 2 (f i)) 0 = true from c1,c2]; rfl),Ad (Abq L n f (ofNat (Aj (λk=>As (f k)) i)) (ofNat (Aj (λk=>Ar (f k)) i)) i j (ofNat_lt hl) (Aq hl) c1 c2 c3 c4),Ax,Ao hl hn,Ao (show Aj (λk=>As (f k)) i < n by omega) hn,Ao (show Aj (λk=>Ar (f k)) i < n by omega) hn,<- Bi (p:=(λk=>As (f k))) c3,<- Bi (p:=(λk=>Ar (f k))) c4]
      exact Ny L n f hn d (i+1) (λ_=>.und) q (by omega) (by omega)
theorem Vx (L:LT) (n:Nat) (f:Nat->E6) (x y:Int) (hn:n <= 4611686018427387904):∀ (d i:Nat) (j:Nat->V) (q:Nat),n = i+d->d < q ->
  (A9 (BH L) (K4 n f) q (C4 n f x y i j)).sem = some (match Be (Fr n f) d i with
   | none=>BU n f x y 0
   | some t=>Hg n f x y t)
 | 0,i,j,q+1,h,_=>by
  have:n = i:=by omega
  subst this
  exact Ad (Agc L n f x y n j (AD (Nat.le_refl _)))
 | d+1,i,j,q+1,h,h2=>by
  have hl:i < n:=by omega
  have e1:=NE hl hn
  have hb:Af (ile 0 (Ab (wr .i64 (Ae (ofNat i) 1)) (ofNat n))) (ilt (Ab (wr .i64 (Ae (ofNat i) 1)) (ofNat n)) (ofNat n)) = true:=by
   rw [e1]; exact Aq (Nat.mod_lt _ (by omega))
  have e2:toN (ofNat ((i+1) % n)) = (i+1) % n:=rfl
  cases c1:ieq (f i).dst (f ((i+1) % n)).src with
  | false =>
   rw [BZ (show Fr n f i = true by rw [Fr,c1]; rfl)]
   exact Ad (Agb L n f x y i j (ofNat_lt hl) (Aq hl) (WX hl) hb (by rw [e1,e2]; exact c1))
  | true =>
   rw [Bz (show Fr n f i = false by rw [Fr,c1]; rfl),Ad (Aga L n f x y i j (ofNat_lt hl) (Aq hl) (WX hl) hb (by rw [e1,e2]; exact c1)),Ax,Ao hl hn]
   exact Vx L n f x y hn d (i+1) (λ_=>.und) q (by omega) (by omega)
theorem Q0 (L:LT) (n:Nat) (f:Nat->E6) (u v:Nat->Int) (hn:n <= 4611686018427387904):∀ (d i:Nat) (j:Nat->V) (q:Nat),n = i+d->d < q ->
  (A9 (CB L) (Jn n f) q (Ec n f u v i j)).sem = some (match Be (AG n v (λi=>isW (f i)) 2) d i with
   | none=>IG n f u v 0
   | some t=>O0 n f u v t)
 | 0,i,j,q+1,h,_=>by
  have:n = i:=by omega
  subst this
  exact Ad (Af0 L n f u v n j (AD (Nat.le_refl _)))
 | d+1,i,j,q+1,h,h2=>by
  have hl:i < n:=by omega
  have hs:Ah n = true:=decide_eq_true hn
  cases c1:ieq (f i).src 2 with
  | false =>
   rw [Bz (show AG n v (λi=>isW (f i)) 2 i = false by rw [AG,isW,c1]; rfl),Ad (Af3 L n f u v i j (ofNat_lt hl) (Aq hl) c1),Ax,Ao hl hn]
   exact Q0 L n f u v hn d (i+1) (λ_=>.und) q (by omega) (by omega)
  | true =>
   cases c2:ilt 2 (Em n v (λi=>(bor (An true) (isW (f i)))) (v i)) with
   | false =>
    rw [Bz (show AG n v (λi=>isW (f i)) 2 i = false by rw [AG,isW,c1]; exact c2),Ad (Af2 L n f u v i j (ofNat_lt hl) (Aq hl) c1 (show nlt i n = true by simpa [nlt] using hl) (Nat.beq_refl n) hs c2),Ax,Ao hl hn]
    exact Q0 L n f u v hn d (i+1) (λ_=>.und) q (by omega) (by omega)
   | true =>
    rw [BZ (show AG n v (λi=>isW (f i)) 2 i = true by rw [AG,isW,c1]; exact c2)]
    exact Ad (Af1 L n f u v i j (ofNat_lt hl) (Aq hl) c1 (show nlt i n = true by simpa [nlt] using hl) (Nat.beq_refl n) hs c2)
theorem Vv (L:LT) (n:Nat) (f:Nat->E6) (u v:Nat->Int) (hn:n <= 4611686018427387904):∀ (d i:Nat) (j:Nat->V) (q:Nat),n = i+d->d < q ->
  (A9 (DX L) (K2 n f) q (Gf n f u v i j)).sem = some (match Be (AG n u (λ_=>true) 12) d i with
   | none=>Ox n f u v 0
   | some t=>Oy n f u v t)
 | 0,i,j,q+1,h,_=>by
  have:n = i:=by omega
  subst this
  exact Ad (Afg L n f u v n j (AD (Nat.le_refl _)))
 | d+1,i,j,q+1,h,h2=>by
  have hl:i < n:=by omega
  have hs:Ah n = true:=decide_eq_true hn
  cases c2:ilt 12 (Em n u (λi=>(bor (An false) (isW (f i)))) (u i)) with
  | false =>
   rw [Bz (show AG n u (λ_=>true) 12 i = false from c2),Ad (Afi L n f u v i j (ofNat_lt hl) (Aq hl) (show nlt i n = true by simpa [nlt] using hl) (Nat.beq_refl n) hs c2),Ax,Ao hl hn]
   exact Vv L n f u v hn d (i+1) (λ_=>.und) q (by omega) (by omega)
  | true =>
   rw [BZ (show AG n u (λ_=>true) 12 i = true from c2)]
   exact Ad (Afh L n f u v i j (ofNat_lt hl) (Aq hl) (show nlt i n = true by simpa [nlt] using hl) (Nat.beq_refl n) hs c2)
def QH (n:Nat) (f:Nat->E6):List (Nat × Lp):=[(0,K0 n f),(2,K4 n f),(4,Jn n f),(6,K2 n f)]
theorem AaC (n:Nat) (f:Nat->E6) (hF:AN n = true) :
  (Az (Ak tab (AS Gl Dc (QH n f)) Try.f19 [iV 2,A4 n f] [])).sem = some (.tup [iV (J7 2 n f).1,iV (J7 2 n f).2],[]):=by
 have hL:=AL (QH n f)
 have hn:=CM (Fm hF)
 unfold J7
 cases hA:ilt (ofNat n) 2 with
 | true=>exact Ad5 _ n f hA
 | false =>
  cases hB:ilt 16 (ofNat n) with
  | true=>exact Ad4 _ n f hA hB
  | false =>
   have h0:=λL j=>Ny L n f hn n 0 j (n+1) (by omega) (by omega)
   have h2:=λL j=>Vx L n f (ofNat (Aj (λk=>As (f k)) n)) (ofNat (Aj (λk=>Ar (f k)) n)) hn n 0 j (n+1) (by omega) (by omega)
   have h4:=λL j=>Q0 L n f (pO n f) (pM n f) hn n 0 j (n+1) (by omega) (by omega)
   have h6:=λL j=>Vv L n f (pO n f) (pM n f) hn n 0 j (n+1) (by omega) (by omega)
   show _ = some (V.tup [iV (match Dy 2 n f,ieq (Dy 2 n f).1 0 with | r,false=>r | _,true=>EV n f).1,iV (match Dy 2 n f,ieq (Dy 2 n f).1 0 with | r,false=>r | _,true=>EV n f).2],[])
   unfold Dy
   cases c1:Be (C2 2 f) n 0 with
   | some t =>
    rw [c1] at h0
    cases c2:ieq (D9 2 (f t)) 0 with
    | false =>
     simp only [c2] at h0 ⊢
     exact A7 (Ay hL hL) _ (Ad9 _ _ n f (ofNat (Aj (λk=>As (f k)) t)) (ofNat (Aj (λk=>Ar (f k)) t)) t hA hB (Am (h0 _ _)))
    | true =>
     simp only [c2] at h0 ⊢
     exact A7 (Ay hL hL) _ (Ad8 _ _ n f (ofNat (Aj (λk=>As (f k)) t)) (ofNat (Aj (λk=>Ar (f k)) t)) t hA hB (Am (h0 _ _)))
   | none =>
    rw [c1] at h0
    cases c2:Be (Fr n f) n 0 with
    | some t =>
     rw [c2] at h2
     exact A7 (Ay (Ay hL hL) hL) _ (Ad7 _ _ _ n f (ofNat (Aj (λk=>As (f k)) n)) (ofNat (Aj (λk=>Ar (f k)) n)) n t hA hB (Am (h0 _ _)) (Am (h2 _ _)))
    | none =>
     rw [c2] at h2
     show _ = some (V.tup [iV (EV n f).1,iV (EV n f).2],[])
     unfold EV
     cases c3:ilt (El n f) 2 with
     | true=>exact A7 (Ay (Ay hL hL) hL) _ (Ad6 _ _ _ n f (ofNat (Aj (λk=>As (f k)) n)) (ofNat (Aj (λk=>Ar (f k)) n)) n 0 hA hB c3 (Am (h0 _ _)) (Am (h2 _ _)))
     | false =>
      cases c4:ilt (Fo n f) 2 with
      | true=>exact A7 (Ay (Ay hL hL) hL) _ (Ad3 _ _ _ n f (ofNat (Aj (λk=>As (f k)) n)) (ofNat (Aj (λk=>Ar (f k)) n)) n 0 hA hB c3 c4 (Am (h0 _ _)) (Am (h2 _ _)))
      | false =>
       show _ = some (V.tup [iV (IH n f).1,iV (IH n f).2],[])
       unfold IH crR
       cases c5:Be (AG n (Av (λk=>Ar (f k)) n) (λi=>isW (f i)) 2) n 0 with
       | some t =>
        rw [show (Be (AG n (pM n f) (λi=>isW (f i)) 2) n 0) = some t from c5] at h4
        exact A7 (Ay (Ay (Ay hL hL) hL) hL) _ (Ad2 _ _ _ _ n f (ofNat (Aj (λk=>As (f k)) n)) (ofNat (Aj (λk=>Ar (f k)) n)) n 0 t hA hB c3 c4 hF (Am (h0 _ _)) (Am (h2 _ _)) (Am (h4 _ _)))
       | none =>
        rw [show (Be (AG n (pM n f) (λi=>isW (f i)) 2) n 0) = none from c5] at h4
        cases c6:Be (AG n (Av (λk=>As (f k)) n) (λ_=>true) 12) n 0 with
        | some t =>
         rw [show (Be (AG n (pO n f) (λ_=>true) 12) n 0) = some t from c6] at h6
         exact A7 (Ay (Ay (Ay (Ay hL hL) hL) hL) hL) _ (AdA _ _ _ _ _ n f (ofNat (Aj (λk=>As (f k)) n)) (ofNat (Aj (λk=>Ar (f k)) n)) n 0 0 t hA hB c3 c4 hF (Am (h0 _ _)) (Am (h2 _ _)) (Am (h4 _ _)) (Am (h6 _ _)))
        | none =>
         rw [show (Be (AG n (pO n f) (λ_=>true) 12) n 0) = none from c6] at h6
         exact A7 (Ay (Ay (Ay (Ay hL hL) hL) hL) hL) _ (Ad1 _ _ _ _ _ n f (ofNat (Aj (λk=>As (f k)) n)) (ofNat (Aj (λk=>Ar (f k)) n)) n 0 0 0 hA hB c3 c4 hF (Am (h0 _ _)) (Am (h2 _ _)) (Am (h4 _ _)) (Am (h6 _ _)))
theorem Ahw (L:LT) (a:Int) (n:Nat) (f:Nat->E6) (h0:ieq a 1 = false) (h1:ieq a 2 = false):(Az (Ak tab ⟨Ap Dc,L,Gl⟩ Try.f19 [iV a,A4 n f] [])).sem = some ((.tup [iV 1,iV 0]),[]):=Aa [true,true,true,true] [An (ieq a 1),An (ieq a 1),An (ieq a 1),An (ieq a 2)] (by kernel_rfl) (by simp only [h0,h1] <;> rfl)
theorem p49:A6 Try.prog Gl 19 Xy:=by
 refine A5 AO AP Try.func19 (by kernel_rfl) (by kernel_rfl) λvs v h' h=>?_
 unfold Xy at h
 split at h
 ·rename_i a u
  obtain ⟨n,f,ha,h1⟩:=Cj h
  obtain ⟨hn,hq⟩:=Ag h1
  have:=Ac hq
  simp only [Prod.mk.injEq] at this
  obtain ⟨rfl,rfl⟩:=this
  cases ca:ieq a 1 with
  | true =>
   have h9:=BF ca
   subst h9
   have hx:=AQ Qi (QG n f)
   exact ⟨_,AS Gl Dc (QG n f),_,UU ha,rfl,hx.1,hx.2,AaB n f hn,AC.refl _⟩
  | false =>
   cases cb:ieq a 2 with
   | true =>
    have h9:=BF cb
    subst h9
    have hx:=AQ Qi (QH n f)
    exact ⟨_,AS Gl Dc (QH n f),_,UU ha,rfl,hx.1,hx.2,AaC n f hn,AC.refl _⟩
   | false =>
    have hx:=AQ Qi []
    refine ⟨_,AS Gl Dc [],_,UU ha,rfl,hx.1,hx.2,?_,AC.refl _⟩
    unfold Pb
    rw [ca,cb]
    exact Ahw _ a n f ca cb
 ·cases h
noncomputable def tb48:List (Nat × (List V->T (V × List Blk))):=(81,AgE) :: (82,UN) :: (87,Uq) :: (86,UM) :: []
theorem tb48_ok:AB Try.prog Gl tb48:=.cons p86 <| .cons p87 <| .cons p92 <| .cons p91 .nil
def ET (a:Int) (n:Nat) (f:Nat->E6):Int:=(Dy a n f).1
def Aj6 (a:Int) (n:Nat) (f:Nat->E6):Int:=(Dy a n f).2
def crI (n:Nat) (l:Nat->Int) (c:Nat->Bool) (q:Int):Int:=(crR n l c q).1
def crB (n:Nat) (l:Nat->Int) (c:Nat->Bool) (q:Int):Bool:=(crR n l c q).2
theorem D6 (p:Nat->Bool) (n:Nat) (hn:n <= 4611686018427387904):okP n (Av p n) = true:=AJ.2 λi hi=>by
 unfold Av
 cases decide (i < n) with
 | false=>rfl
 | true =>
  cases decide (Aj p i = Aj p n) with
  | true=>rfl
  | false =>
   have:=AX p i
   exact QY (by omega)
section
variable (L:LT) (n:Nat) (f:Nat->E6)
include L n f
theorem AdE (h0:ilt (ofNat n) 2 = true):(Az (Ak tab ⟨Ap tb48,L,Gl⟩ Try.f50 [iV 1,A4 n f] [])).sem = some ((.tup [iV 40,iV 0]),[]):=Aa (bbK 9 496) ((λc0 c1=>[c0,c0,c0,false,c1,c1,c1,c1,true]) (An (ieq 1 1)) (ilt (ofNat n) 2)) (by kernel_rfl) (by simp only [h0] <;> rfl)
theorem AdD (h0:ilt (ofNat n) 2 = false) (h1:ilt 16 (ofNat n) = true):(Az (Ak tab ⟨Ap tb48,L,Gl⟩ Try.f50 [iV 1,A4 n f] [])).sem = some ((.tup [iV 40,iV 0]),[]):=Aa (bbK 9 256) ((λc0 c1=>[c0,c0,c0,false,c1,c1,c1,c1,ilt 16 (ofNat n)]) (An (ieq 1 1)) (ilt (ofNat n) 2)) (by kernel_rfl) (by simp only [h0,h1] <;> rfl)
theorem AdH (h0:ilt (ofNat n) 2 = false) (h1:ilt 16 (ofNat n) = false) (h2:AN n = true) (h3:ieq (ET 1 n f) 0 = false):(Az (Ak tab ⟨Ap tb48,L,Gl⟩ Try.f50 [iV 1,A4 n f] [])).sem = some ((.tup [iV (ET 1 n f),iV (Aj6 1 n f)]),[]):=Aa (bbK 12 3584) ((λc0 c1=>[c0,c0,c0,false,c1,c1,c1,c1,ilt 16 (ofNat n),Au n (λ_=>true),AN n,An (ieq (ET 1 n f) 0)]) (An (ieq 1 1)) (ilt (ofNat n) 2)) (by kernel_rfl) (by simp only [*,Aw] <;> rfl)
theorem AdF (h0:ilt (ofNat n) 2 = false) (h1:ilt 16 (ofNat n) = false) (h2:AN n = true) (h3:ieq (ET 1 n f) 0 = true) (h4:Ah n = true) (h5:ilt (El n f) 2 = true):(Az (Ak tab ⟨Ap tb48,L,Gl⟩ Try.f50 [iV 1,A4 n f] [])).sem = some ((.tup [iV 42,iV 0]),[]):=Aa (bbK 15 30208) ((λc0 c1 c2=>[c0,c0,c0,false,c1,c1,c1,c1,ilt 16 (ofNat n),c2,AN n,An (ieq (ET 1 n f) 0),c2,Ah n,ilt (El n f) 2]) (An (ieq 1 1)) (ilt (ofNat n) 2) (Au n (λ_=>true))) (by kernel_rfl) (by simp only [*,Aw] <;> rfl)
theorem AdG (h0:ilt (ofNat n) 2 = false) (h1:ilt 16 (ofNat n) = false) (h2:AN n = true) (h3:ieq (ET 1 n f) 0 = true) (h4:Ah n = true) (h5:ilt (El n f) 2 = false) (h6:ilt (Fo n f) 2 = true):(Az (Ak tab ⟨Ap tb48,L,Gl⟩ Try.f50 [iV 1,A4 n f] [])).sem = some ((.tup [iV 43,iV 0]),[]):=Aa (bbK 18 243200) ((λc0 c1 c2 c3=>[c0,c0,c0,false,c1,c1,c1,c1,ilt 16 (ofNat n),c2,AN n,An (ieq (ET 1 n f) 0),c2,c3,ilt (El n f) 2,c2,c3,ilt (Fo n f) 2]) (An (ieq 1 1)) (ilt (ofNat n) 2) (Au n (λ_=>true)) (Ah n)) (by kernel_rfl) (by simp only [*,Aw] <;> rfl)
theorem AdC (h0:ilt (ofNat n) 2 = false) (h1:ilt 16 (ofNat n) = false) (h2:AN n = true) (h3:ieq (ET 1 n f) 0 = true) (h4:Ah n = true) (h5:ilt (El n f) 2 = false) (h6:ilt (Fo n f) 2 = false) (h7:BI 8 (ofNat n) (ofNat n) = true) (h8:A3 n n = true) (h9:okP n (Av (λk=>Ar (f k)) n) = true) (h10:crB n (Av (λk=>Ar (f k)) n) (λi=>isW (f i)) 2 = true):(Az (Ak tab ⟨Ap tb48,L,Gl⟩ Try.f50 [iV 1,A4 n f] [])).sem = some ((.tup [iV 44,iV (crI n (Av (λk=>Ar (f k)) n) (λi=>isW (f i)) 2)]),[]):=Aa (bbK 26 66958848) ((λc0 c1 c2 c3=>[c0,c0,c0,false,c1,c1,c1,c1,ilt 16 (ofNat n),c2,AN n,An (ieq (ET 1 n f) 0),c2,c3,ilt (El n f) 2,c2,c3,ilt (Fo n f) 2,c2,BI 8 (ofNat n) (ofNat n),c2,c2,A3 n n,c3,okP n (Av (λk=>Ar (f k)) n),crB n (Av (λk=>Ar (f k)) n) (λi=>isW (f i)) 2]) (An (ieq 1 1)) (ilt (ofNat n) 2) (Au n (λ_=>true)) (Ah n)) (by kernel_rfl) (by simp only [*,Aw] <;> rfl)
theorem AdI (h0:ilt (ofNat n) 2 = false) (h1:ilt 16 (ofNat n) = false) (h2:AN n = true) (h3:ieq (ET 1 n f) 0 = true) (h4:Ah n = true) (h5:ilt (El n f) 2 = false) (h6:ilt (Fo n f) 2 = false) (h7:BI 8 (ofNat n) (ofNat n) = true) (h8:A3 n n = true) (h9:okP n (Av (λk=>Ar (f k)) n) = true) (h10:crB n (Av (λk=>Ar (f k)) n) (λi=>isW (f i)) 2 = false) (h11:okP n (Av (λk=>As (f k)) n) = true) (h12:crB n (Av (λk=>As (f k)) n) (λ_=>true) 12 = true):(Az (Ak tab ⟨Ap tb48,L,Gl⟩ Try.f50 [iV 1,A4 n f] [])).sem = some ((.tup [iV 45,iV (crI n (Av (λk=>As (f k)) n) (λ_=>true) 12)]),[]):=Aa (bbK 32 4261262848) ((λc0 c1 c2 c3 c4=>[c0,c0,c0,false,c1,c1,c1,c1,ilt 16 (ofNat n),c2,AN n,An (ieq (ET 1 n f) 0),c2,c3,ilt (El n f) 2,c2,c3,ilt (Fo n f) 2,c2,c4,c2,c2,A3 n n,c3,okP n (Av (λk=>Ar (f k)) n),crB n (Av (λk=>Ar (f k)) n) (λi=>isW (f i)) 2,c2,c4,c2,c3,okP n (Av (λk=>As (f k)) n),crB n (Av (λk=>As (f k)) n) (λ_=>true) 12]) (An (ieq 1 1)) (ilt (ofNat n) 2) (Au n (λ_=>true)) (Ah n) (BI 8 (ofNat n) (ofNat n))) (by kernel_rfl) (by simp only [*,Aw] <;> rfl)
theorem AdB (h0:ilt (ofNat n) 2 = false) (h1:ilt 16 (ofNat n) = false) (h2:AN n = true) (h3:ieq (ET 1 n f) 0 = true) (h4:Ah n = true) (h5:ilt (El n f) 2 = false) (h6:ilt (Fo n f) 2 = false) (h7:BI 8 (ofNat n) (ofNat n) = true) (h8:A3 n n = true) (h9:okP n (Av (λk=>Ar (f k)) n) = true) (h10:crB n (Av (λk=>Ar (f k)) n) (λi=>isW (f i)) 2 = false) (h11:okP n (Av (λk=>As (f k)) n) = true) (h12:crB n (Av (λk=>As (f k)) n) (λ_=>true) 12 = false):(Az (Ak tab ⟨Ap tb48,L,Gl⟩ Try.f50 [iV 1,A4 n f] [])).sem = some ((.tup [iV 0,iV 0]),[]):=Aa (bbK 32 2113779200) ((λc0 c1 c2 c3 c4=>[c0,c0,c0,false,c1,c1,c1,c1,ilt 16 (ofNat n),c2,AN n,An (ieq (ET 1 n f) 0),c2,c3,ilt (El n f) 2,c2,c3,ilt (Fo n f) 2,c2,c4,c2,c2,A3 n n,c3,okP n (Av (λk=>Ar (f k)) n),crB n (Av (λk=>Ar (f k)) n) (λi=>isW (f i)) 2,c2,c4,c2,c3,okP n (Av (λk=>As (f k)) n),crB n (Av (λk=>As (f k)) n) (λ_=>true) 12]) (An (ieq 1 1)) (ilt (ofNat n) 2) (Au n (λ_=>true)) (Ah n) (BI 8 (ofNat n) (ofNat n))) (by kernel_rfl) (by simp only [*,Aw] <;> rfl)
theorem AdM (h0:ilt (ofNat n) 2 = true):(Az (Ak tab ⟨Ap tb48,L,Gl⟩ Try.f50 [iV 2,A4 n f] [])).sem = some ((.tup [iV 40,iV 0]),[]):=Aa (bbK 9 503) ((λc0 c1=>[c0,c0,c0,An (ieq 2 2),c1,c1,c1,c1,true]) (An (ieq 2 1)) (ilt (ofNat n) 2)) (by kernel_rfl) (by simp only [h0] <;> rfl)
theorem AdL (h0:ilt (ofNat n) 2 = false) (h1:ilt 16 (ofNat n) = true):(Az (Ak tab ⟨Ap tb48,L,Gl⟩ Try.f50 [iV 2,A4 n f] [])).sem = some ((.tup [iV 40,iV 0]),[]):=Aa (bbK 9 263) ((λc0 c1=>[c0,c0,c0,An (ieq 2 2),c1,c1,c1,c1,ilt 16 (ofNat n)]) (An (ieq 2 1)) (ilt (ofNat n) 2)) (by kernel_rfl) (by simp only [h0,h1] <;> rfl)
theorem AdP (h0:ilt (ofNat n) 2 = false) (h1:ilt 16 (ofNat n) = false) (h2:AN n = true) (h3:ieq (ET 2 n f) 0 = false):(Az (Ak tab ⟨Ap tb48,L,Gl⟩ Try.f50 [iV 2,A4 n f] [])).sem = some ((.tup [iV (ET 2 n f),iV (Aj6 2 n f)]),[]):=Aa (bbK 12 3591) ((λc0 c1=>[c0,c0,c0,An (ieq 2 2),c1,c1,c1,c1,ilt 16 (ofNat n),Au n (λ_=>true),AN n,An (ieq (ET 2 n f) 0)]) (An (ieq 2 1)) (ilt (ofNat n) 2)) (by kernel_rfl) (by simp only [*,Aw] <;> rfl)
theorem AdN (h0:ilt (ofNat n) 2 = false) (h1:ilt 16 (ofNat n) = false) (h2:AN n = true) (h3:ieq (ET 2 n f) 0 = true) (h4:Ah n = true) (h5:ilt (El n f) 2 = true):(Az (Ak tab ⟨Ap tb48,L,Gl⟩ Try.f50 [iV 2,A4 n f] [])).sem = some ((.tup [iV 42,iV 0]),[]):=Aa (bbK 15 30215) ((λc0 c1 c2=>[c0,c0,c0,An (ieq 2 2),c1,c1,c1,c1,ilt 16 (ofNat n),c2,AN n,An (ieq (ET 2 n f) 0),c2,Ah n,ilt (El n f) 2]) (An (ieq 2 1)) (ilt (ofNat n) 2) (Au n (λ_=>true))) (by kernel_rfl) (by simp only [*,Aw] <;> rfl)
theorem AdO (h0:ilt (ofNat n) 2 = false) (h1:ilt 16 (ofNat n) = false) (h2:AN n = true) (h3:ieq (ET 2 n f) 0 = true) (h4:Ah n = true) (h5:ilt (El n f) 2 = false) (h6:ilt (Fo n f) 2 = true):(Az (Ak tab ⟨Ap tb48,L,Gl⟩ Try.f50 [iV 2,A4 n f] [])).sem = some ((.tup [iV 43,iV 0]),[]):=Aa (bbK 18 243207) ((λc0 c1 c2 c3=>[c0,c0,c0,An (ieq 2 2),c1,c1,c1,c1,ilt 16 (ofNat n),c2,AN n,An (ieq (ET 2 n f) 0),c2,c3,ilt (El n f) 2,c2,c3,ilt (Fo n f) 2]) (An (ieq 2 1)) (ilt (ofNat n) 2) (Au n (λ_=>true)) (Ah n)) (by kernel_rfl) (by simp only [*,Aw] <;> rfl)
theorem AdK (h0:ilt (ofNat n) 2 = false) (h1:ilt 16 (ofNat n) = false) (h2:AN n = true) (h3:ieq (ET 2 n f) 0 = true) (h4:Ah n = true) (h5:ilt (El n f) 2 = false) (h6:ilt (Fo n f) 2 = false) (h7:BI 8 (ofNat n) (ofNat n) = true) (h8:A3 n n = true) (h9:okP n (Av (λk=>Ar (f k)) n) = true) (h10:crB n (Av (λk=>Ar (f k)) n) (λi=>isW (f i)) 2 = true):(Az (Ak tab ⟨Ap tb48,L,Gl⟩ Try.f50 [iV 2,A4 n f] [])).sem = some ((.tup [iV 44,iV (crI n (Av (λk=>Ar (f k)) n) (λi=>isW (f i)) 2)]),[]):=Aa (bbK 26 66958855) ((λc0 c1 c2 c3=>[c0,c0,c0,An (ieq 2 2),c1,c1,c1,c1,ilt 16 (ofNat n),c2,AN n,An (ieq (ET 2 n f) 0),c2,c3,ilt (El n f) 2,c2,c3,ilt (Fo n f) 2,c2,BI 8 (ofNat n) (ofNat n),c2,c2,A3 n n,c3,okP n (Av (λk=>Ar (f k)) n),crB n (Av (λk=>Ar (f k)) n) (λi=>isW (f i)) 2]) (An (ieq 2 1)) (ilt (ofNat n) 2) (Au n (λ_=>true)) (Ah n)) (by kernel_rfl) (by simp only [*,Aw] <;> rfl)
theorem AdQ (h0:ilt (ofNat n) 2 = false) (h1:ilt 16 (ofNat n) = false) (h2:AN n = true) (h3:ieq (ET 2 n f) 0 = true) (h4:Ah n = true) (h5:ilt (El n f) 2 = false) (h6:ilt (Fo n f) 2 = false) (h7:BI 8 (ofNat n) (ofNat n) = true) (h8:A3 n n = true) (h9:okP n (Av (λk=>Ar (f k)) n) = true) (h10:crB n (Av (λk=>Ar (f k)) n) (λi=>isW (f i)) 2 = false) (h11:okP n (Av (λk=>As (f k)) n) = true) (h12:crB n (Av (λk=>As (f k)) n) (λ_=>true) 12 = true):(Az (Ak tab ⟨Ap tb48,L,Gl⟩ Try.f50 [iV 2,A4 n f] [])).sem = some ((.tup [iV 45,iV (crI n (Av (λk=>As (f k)) n) (λ_=>true) 12)]),[]):=Aa (bbK 32 4261262855) ((λc0 c1 c2 c3 c4=>[c0,c0,c0,An (ieq 2 2),c1,c1,c1,c1,ilt 16 (ofNat n),c2,AN n,An (ieq (ET 2 n f) 0),c2,c3,ilt (El n f) 2,c2,c3,ilt (Fo n f) 2,c2,c4,c2,c2,A3 n n,c3,okP n (Av (λk=>Ar (f k)) n),crB n (Av (λk=>Ar (f k)) n) (λi=>isW (f i)) 2,c2,c4,c2,c3,okP n (Av (λk=>As (f k)) n),crB n (Av (λk=>As (f k)) n) (λ_=>true) 12]) (An (ieq 2 1)) (ilt (ofNat n) 2) (Au n (λ_=>true)) (Ah n) (BI 8 (ofNat n) (ofNat n))) (by kernel_rfl) (by simp only [*,Aw] <;> rfl)
theorem AdJ (h0:ilt (ofNat n) 2 = false) (h1:ilt 16 (ofNat n) = false) (h2:AN n = true) (h3:ieq (ET 2 n f) 0 = true) (h4:Ah n = true) (h5:ilt (El n f) 2 = false) (h6:ilt (Fo n f) 2 = false) (h7:BI 8 (ofNat n) (ofNat n) = true) (h8:A3 n n = true) (h9:okP n (Av (λk=>Ar (f k)) n) = true) (h10:crB n (Av (λk=>Ar (f k)) n) (λi=>isW (f i)) 2 = false) (h11:okP n (Av (λk=>As (f k)) n) = true) (h12:crB n (Av (λk=>As (f k)) n) (λ_=>true) 12 = false):(Az (Ak tab ⟨Ap tb48,L,Gl⟩ Try.f50 [iV 2,A4 n f] [])).sem = some ((.tup [iV 0,iV 0]),[]):=Aa (bbK 32 2113779207) ((λc0 c1 c2 c3 c4=>[c0,c0,c0,An (ieq 2 2),c1,c1,c1,c1,ilt 16 (ofNat n),c2,AN n,An (ieq (ET 2 n f) 0),c2,c3,ilt (El n f) 2,c2,c3,ilt (Fo n f) 2,c2,c4,c2,c2,A3 n n,c3,okP n (Av (λk=>Ar (f k)) n),crB n (Av (λk=>Ar (f k)) n) (λi=>isW (f i)) 2,c2,c4,c2,c3,okP n (Av (λk=>As (f k)) n),crB n (Av (λk=>As (f k)) n) (λ_=>true) 12]) (An (ieq 2 1)) (ilt (ofNat n) 2) (Au n (λ_=>true)) (Ah n) (BI 8 (ofNat n) (ofNat n))) (by kernel_rfl) (by simp only [*,Aw] <;> rfl)
end
theorem Ahx (L:LT) (a:Int) (n:Nat) (f:Nat->E6) (h0:ieq a 1 = false) (h1:ieq a 2 = false):(Az (Ak tab ⟨Ap tb48,L,Gl⟩ Try.f50 [iV a,A4 n f] [])).sem = some ((.tup [iV 1,iV 0]),[]):=Aa [true,true,true,true] [An (ieq a 1),An (ieq a 1),An (ieq a 1),An (ieq a 2)] (by kernel_rfl) (by simp only [h0,h1] <;> rfl)
theorem AaD (n:Nat) (f:Nat->E6) (hF:AN n = true) :
  (Az (Ak tab (AS Gl tb48 []) Try.f50 [iV 1,A4 n f] [])).sem = some (.tup [iV (J7 1 n f).1,iV (J7 1 n f).2],[]):=by
 have hn:=CM (Fm hF)
 have hs:Ah n = true:=decide_eq_true hn
 have hk:BI 8 (ofNat n) (ofNat n) = true:=by
  have:=HJ hF
  simp only [BI,Bool.and_eq_true,decide_eq_true_eq,Int.ofNat_eq_natCast]
  omega
 unfold J7
 cases hA:ilt (ofNat n) 2 with
 | true=>exact AdE _ n f hA
 | false =>
  cases hB:ilt 16 (ofNat n) with
  | true=>exact AdD _ n f hA hB
  | false =>
   show _ = some (V.tup [iV (match Dy 1 n f,ieq (Dy 1 n f).1 0 with | r,false=>r | _,true=>EV n f).1,iV (match Dy 1 n f,ieq (Dy 1 n f).1 0 with | r,false=>r | _,true=>EV n f).2],[])
   cases c1:ieq (Dy 1 n f).1 0 with
   | false=>exact AdH _ n f hA hB hF c1
   | true =>
    show _ = some (V.tup [iV (EV n f).1,iV (EV n f).2],[])
    unfold EV
    cases c3:ilt (El n f) 2 with
    | true=>exact AdF _ n f hA hB hF c1 hs c3
    | false =>
     cases c4:ilt (Fo n f) 2 with
     | true=>exact AdG _ n f hA hB hF c1 hs c3 c4
     | false =>
      show _ = some (V.tup [iV (IH n f).1,iV (IH n f).2],[])
      unfold IH
      cases c5:crB n (Av (λk=>Ar (f k)) n) (λi=>isW (f i)) 2 with
      | true =>
       rw [show crR n (Av (λk=>Ar (f k)) n) (λi=>isW (f i)) 2 = (crI n (Av (λk=>Ar (f k)) n) (λi=>isW (f i)) 2,true) from Prod.ext rfl c5]
       exact AdC _ n f hA hB hF c1 hs c3 c4 hk (Nat.beq_refl n) (D6 _ n hn) c5
      | false =>
       rw [show crR n (Av (λk=>Ar (f k)) n) (λi=>isW (f i)) 2 = (crI n (Av (λk=>Ar (f k)) n) (λi=>isW (f i)) 2,false) from Prod.ext rfl c5]
       cases c6:crB n (Av (λk=>As (f k)) n) (λ_=>true) 12 with
       | true =>
        rw [show crR n (Av (λk=>As (f k)) n) (λ_=>true) 12 = (crI n (Av (λk=>As (f k)) n) (λ_=>true) 12,true) from Prod.ext rfl c6]
        exact AdI _ n f hA hB hF c1 hs c3 c4 hk (Nat.beq_refl n) (D6 _ n hn) c5 (D6 _ n hn) c6
       | false =>
        rw [show crR n (Av (λk=>As (f k)) n) (λ_=>true) 12 = (crI n (Av (λk=>As (f k)) n) (λ_=>true) 12,false) from Prod.ext rfl c6]
        exact AdB _ n f hA hB hF c1 hs c3 c4 hk (Nat.beq_refl n) (D6 _ n hn) c5 (D6 _ n hn) c6
theorem AaE (n:Nat) (f:Nat->E6) (hF:AN n = true) :
  (Az (Ak tab (AS Gl tb48 []) Try.f50 [iV 2,A4 n f] [])).sem = some (.tup [iV (J7 2 n f).1,iV (J7 2 n f).2],[]):=by
 have hn:=CM (Fm hF)
 have hs:Ah n = true:=decide_eq_true hn
 have hk:BI 8 (ofNat n) (ofNat n) = true:=by
  have:=HJ hF
  simp only [BI,Bool.and_eq_true,decide_eq_true_eq,Int.ofNat_eq_natCast]
  omega
 unfold J7
 cases hA:ilt (ofNat n) 2 with
 | true=>exact AdM _ n f hA
 | false =>
  cases hB:ilt 16 (ofNat n) with
  | true=>exact AdL _ n f hA hB
  | false =>
   show _ = some (V.tup [iV (match Dy 2 n f,ieq (Dy 2 n f).1 0 with | r,false=>r | _,true=>EV n f).1,iV (match Dy 2 n f,ieq (Dy 2 n f).1 0 with | r,false=>r | _,true=>EV n f).2],[])
   cases c1:ieq (Dy 2 n f).1 0 with
   | false=>exact AdP _ n f hA hB hF c1
   | true =>
    show _ = some (V.tup [iV (EV n f).1,iV (EV n f).2],[])
    unfold EV
    cases c3:ilt (El n f) 2 with
    | true=>exact AdN _ n f hA hB hF c1 hs c3
    | false =>
     cases c4:ilt (Fo n f) 2 with
     | true=>exact AdO _ n f hA hB hF c1 hs c3 c4
     | false =>
      show _ = some (V.tup [iV (IH n f).1,iV (IH n f).2],[])
      unfold IH
      cases c5:crB n (Av (λk=>Ar (f k)) n) (λi=>isW (f i)) 2 with
      | true =>
       rw [show crR n (Av (λk=>Ar (f k)) n) (λi=>isW (f i)) 2 = (crI n (Av (λk=>Ar (f k)) n) (λi=>isW (f i)) 2,true) from Prod.ext rfl c5]
       exact AdK _ n f hA hB hF c1 hs c3 c4 hk (Nat.beq_refl n) (D6 _ n hn) c5
      | false =>
       rw [show crR n (Av (λk=>Ar (f k)) n) (λi=>isW (f i)) 2 = (crI n (Av (λk=>Ar (f k)) n) (λi=>isW (f i)) 2,false) from Prod.ext rfl c5]
       cases c6:crB n (Av (λk=>As (f k)) n) (λ_=>true) 12 with
       | true =>
        rw [show crR n (Av (λk=>As (f k)) n) (λ_=>true) 12 = (crI n (Av (λk=>As (f k)) n) (λ_=>true) 12,true) from Prod.ext rfl c6]
        exact AdQ _ n f hA hB hF c1 hs c3 c4 hk (Nat.beq_refl n) (D6 _ n hn) c5 (D6 _ n hn) c6
       | false =>
        rw [show crR n (Av (λk=>As (f k)) n) (λ_=>true) 12 = (crI n (Av (λk=>As (f k)) n) (λ_=>true) 12,false) from Prod.ext rfl c6]
        exact AdJ _ n f hA hB hF c1 hs c3 c4 hk (Nat.beq_refl n) (D6 _ n hn) c5 (D6 _ n hn) c6
theorem p48:A6 Try.prog Gl 50 Xy:=by
 refine A5 AO AP Try.func50 (by kernel_rfl) (by kernel_rfl) λvs v h' h=>?_
 unfold Xy at h
 split at h
 ·rename_i a u
  obtain ⟨n,f,ha,h1⟩:=Cj h
  obtain ⟨hn,hq⟩:=Ag h1
  have:=Ac hq
  simp only [Prod.mk.injEq] at this
  obtain ⟨rfl,rfl⟩:=this
  cases ca:ieq a 1 with
  | true =>
   have h9:=BF ca
   subst h9
   have hx:=AQ tb48_ok []
   exact ⟨_,AS Gl tb48 [],_,UU ha,rfl,hx.1,hx.2,AaD n f hn,AC.refl _⟩
  | false =>
   cases cb:ieq a 2 with
   | true =>
    have h9:=BF cb
    subst h9
    have hx:=AQ tb48_ok []
    exact ⟨_,AS Gl tb48 [],_,UU ha,rfl,hx.1,hx.2,AaE n f hn,AC.refl _⟩
   | false =>
    have hx:=AQ tb48_ok []
    refine ⟨_,AS Gl tb48 [],_,UU ha,rfl,hx.1,hx.2,?_,AC.refl _⟩
    unfold Pb
    rw [ca,cb]
    exact Ahx _ a n f ca cb
 ·cases h
end Go.Proofs.Ytjhnfomefcngfaa.Ed
