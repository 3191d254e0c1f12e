/-
  Layer 7: the document's shape of a cycle. No conditions.
-/
import Derived.Test.YtjhnfomefcngfaaShE
namespace Go.Proofs.Ytjhnfomefcngfaa.Sh
open Go.Sy Ed
open Int (ofNat)
set_option maxHeartbeats 1000000
set_option maxRecDepth 4000
def Ab2:List V->T (V × List Blk):=Hp λn f=>.br (AN n) (.br (BM n f) (.leaf (.tup [.ref 0,iV 0],[.row 3 1 n λk=>iV (Av (λk=>As (f k)) n k)])) .fail) .fail
def Ab1:List V->T (V × List Blk):=Hp λn f=>.br (AN n) (.br (BM n f) (.leaf (.tup [.ref 0,iV 0],[.row 3 1 n λk=>iV (Av (λk=>Ar (f k)) n k)])) .fail) .fail
theorem p57:A6 Try.prog Gl 57 Ab2:=A6.congr Ed.p53 λvs r h=>by
 obtain ⟨v,rfl⟩:∃ v,vs = [v]:=by
  unfold Ab2 Hp at h
  split at h
  ·exact ⟨_,rfl⟩
  ·cases h
 unfold Ab2 Hp at h
 unfold Ks Hp
 dsimp only at h ⊢
 unfold apL at h ⊢
 split at h
 ·rename_i n g hg
  obtain ⟨h1,h⟩:=Ag h
  dsimp only at h
  obtain ⟨h2,h⟩:=Ag h
  obtain ⟨h3,h⟩:=Ag h
  rw [h1]
  dsimp only
  rw [h2,h3]
  exact h
 ·cases h
theorem p58:A6 Try.prog Gl 58 Ab1:=A6.congr Ed.p54 λvs r h=>by
 obtain ⟨v,rfl⟩:∃ v,vs = [v]:=by
  unfold Ab1 Hp at h
  split at h
  ·exact ⟨_,rfl⟩
  ·cases h
 unfold Ab1 Hp at h
 unfold Ks Hp
 dsimp only at h ⊢
 unfold apL at h ⊢
 split at h
 ·rename_i n g hg
  obtain ⟨h1,h⟩:=Ag h
  dsimp only at h
  obtain ⟨h2,h⟩:=Ag h
  obtain ⟨h3,h⟩:=Ag h
  rw [h1]
  dsimp only
  rw [h2,h3]
  exact h
 ·cases h
noncomputable def AhN:List (Nat × (List V->T (V × List Blk))):=[(19,Xy),(56,ZS),(57,Ab2),(58,Ab1)]
theorem AaS:AB Try.prog Gl AhN:=.cons p49 <| .cons p56 <| .cons p57 <| .cons p58 .nil
def GT:List (Nat × Lp):=[(0,⟨(bmK 79 0 [1,2,4,5,6,7,8,9]),12,bmK 79 0 [2,4,5],12,17⟩)]
def KX:List (Nat × List (Nat × V)):=[(0,[(11,iV 0)])]
noncomputable def CV:FuncId->List V->St->T (V × Res):=KP [(59,KA tab (cxZ Gl TM KX GT) Try.f59)] (Ap AhN)
theorem X0:Bj Try.prog ⟨CV,Gl⟩:=Hm AP (.cons rfl AO (JW Vi KX GT).1 (JW Vi KX GT).2 Try.func59 (by kernel_rfl) (by kernel_rfl) .nil) (En rfl AaS)
theorem Aks (L:LT) (a:Int) (n:Nat) (f:Nat->E6) (h0:AN n = true) (h1:ieq (BR a n f) 0 = false):(Az (Ak tab ⟨CV,L,Gl⟩ Try.f15 [iV a,.sl 6 n λi=>eV (f i)] [])).sem = some ((.tup [.agg [iV 0,.ref 0,.ref 1,iV 0,iV 0,.ref 2,.jref 3],iV (BR a n f),iV (LH a n f)]),[.row 44 6 0 (λ_=>.und),.row 40 5 0 (λ_=>.und),r3Z,jgZ]):=Aa [true,true,true] [Au n (λ_=>true),AN n,An (ieq (BR a n f) 0)] (by kernel_rfl) (by simp only [h0,h1,Aw] <;> rfl)
def J5 (a:Int) (n:Nat) (f:Nat->E6):Lp:=⟨(bmK 132 0 [4,5,6,9,10,11,13,15,16]),8,bmK 132 0 [4,5,6,15],8,n+1⟩
def JI (a:Int) (n:Nat) (f:Nat->E6) (b:Nat) (tt kk:Int) (th lo:Nat->Int) (x:Nat->V) (r:Nat->Int) (j:Nat->V):St:=⟨(jsV 132 0 j [(4,.ptr 0 0),(5,iV 0),(6,iV 0),(9,.ref 1),(10,nV n),(11,.ref 2),(13,.ref 3),(15,.ptr 4 0),(16,nV b)]),[c7Z,.row 44 6 n (λi=>eV (shG n f i)),.row 3 1 n (λk=>iV (th k)),.row 3 1 n (λk=>iV (lo k)),.cells [iV a,.ref 1,.ref 5,iV tt,iV kk,.ref 6,.jref 7],.row 40 5 b x,.row 3 1 b (λi=>iV (r i)),jgZ]⟩
def O2 (a:Int) (n:Nat) (f:Nat->E6) (b:Nat) (tt kk:Int) (th lo:Nat->Int) (x:Nat->V) (r:Nat->Int):Ex × St:=(.ex 0,⟨(jsV 132 0 (λ_=>.und) [(4,.ptr 0 0),(5,iV 0),(6,iV 0),(15,.ptr 4 0)]),[c7Z,.row 44 6 n (λi=>eV (shG n f i)),.row 3 1 n (λk=>iV (th k)),.row 3 1 n (λk=>iV (lo k)),.cells [iV a,.ref 1,.ref 5,iV tt,iV kk,.ref 6,.jref 7],.row 40 5 b x,.row 3 1 b (λi=>iV (r i)),jgZ]⟩)
noncomputable def Fq (L:LT):St->T (Ex × St):=λst=>AF tab ⟨CV,L,Gl⟩ (A1 Try.f15 0) 0 st
theorem Ai2 (L:LT) (a:Int) (n:Nat) (f:Nat->E6) (b:Nat) (tt kk:Int) (th lo:Nat->Int) (x:Nat->V) (r:Nat->Int)  (j:Nat->V) (h0:ilt (ofNat b) (ofNat n) = false):Ai (Fq L) (J5 a n f) (JI a n f b tt kk th lo x r j) = some ((.ex 0),⟨(jsV 132 0 (λ_=>.und) [(4,(.ptr 0 0)),(5,(iV 0)),(6,(iV 0)),(15,(.ptr 4 0))]),[c7Z,.row 44 6 n (λi=>eV (shG n f i)),.row 3 1 n (λk=>iV (th k)),.row 3 1 n (λk=>iV (lo k)),.cells [iV a,.ref 1,.ref 5,iV tt,iV kk,.ref 6,.jref 7],.row 40 5 b x,.row 3 1 b (λi=>iV (r i)),jgZ]⟩):=Aa [false] [ilt (ofNat b) (ofNat n)] (by kernel_rfl) (by simp only [h0] <;> rfl)
def Wi (a:Int) (n:Nat) (f:Nat->E6) :St:=⟨(jsV 132 0 (λ_=>AA) [(0,(iV a)),(1,(.sl 6 n (λi=>eV (f i)))),(4,(.ptr 0 0)),(5,(iV 0)),(6,(iV 0)),(7,(iV (BR a n f))),(8,(iV (LH a n f))),(9,(.ref 1)),(10,(nV n)),(11,(.ref 2)),(12,(iV 0)),(13,(.ref 3)),(14,(iV 0)),(15,(.ptr 4 0)),(16,(iV 0)),(20,(.tup [iV (BR a n f),iV (LH a n f)])),(21,(iV a)),(22,(.sl 6 n (λi=>eV (f i)))),(23,(.tup [iV (BR a n f),iV (LH a n f)])),(24,(iV (BR a n f))),(25,(iV (LH a n f))),(26,(iV (BR a n f))),(27,(bV (An (ieq (BR a n f) 0)))),(31,(.sl 6 n (λi=>eV (f i)))),(32,(.ref 1)),(33,(.ref 1)),(34,(nV n)),(35,(.tup [.ref 2,iV 0])),(36,(.ref 1)),(37,(.tup [.ref 2,iV 0])),(38,(.ref 2)),(39,(iV 0)),(40,(.tup [.ref 3,iV 0])),(41,(.ref 1)),(42,(.tup [.ref 3,iV 0])),(43,(.ref 3)),(44,(iV 0)),(45,(iV a)),(46,(.ref 1)),(47,(.agg [iV a,.ref 1,.nilS,iV 0,iV 0,.nilS,.nilS]))]),[c7Z,.row 44 6 n (λi=>eV (shG n f i)),.row 3 1 n (λk=>iV (Av (λk=>As (shG n f k)) n k)),.row 3 1 n (λk=>iV (Av (λk=>Ar (shG n f k)) n k)),.cells [iV a,.ref 1,.ref 5,iV 0,iV 0,.ref 6,.jref 7],.row 40 5 0 (λ_=>.und),r3Z,jgZ]⟩
def Ej (a:Int) (n:Nat) (f:Nat->E6) (b:Nat) (tt kk:Int) (th lo:Nat->Int) (x:Nat->V) (r:Nat->Int) (j:Nat->V):St:=⟨(jsV 132 0 j [(4,(.ptr 0 0)),(5,(iV 0)),(6,(iV 0)),(9,(.ref 1)),(10,(nV n)),(11,(.ref 2)),(13,(.ref 3)),(15,(.ptr 4 0)),(16,(nV b)),(17,(.ptr 8 0)),(18,(iV 0)),(48,(nV b)),(49,(nV n)),(50,(bV (ilt (ofNat b) (ofNat n)))),(53,(.ref 2)),(54,(nV b)),(55,(.ept 2 1 b 0)),(56,(iV (th b))),(57,(.ref 1)),(58,(nV b)),(59,(.ept 1 6 b 0)),(60,(.ept 1 6 b 3)),(61,(iV ((shG n f b)).src)),(62,(.ref 3)),(63,(nV b)),(64,(.ept 3 1 b 0)),(65,(iV (lo b))),(66,(.agg [iV (th b),iV 0,iV ((shG n f b)).src,iV (lo b),iV 0]))]),[c7Z,.row 44 6 n (λi=>eV (shG n f i)),.row 3 1 n (λk=>iV (th k)),.row 3 1 n (λk=>iV (lo k)),.cells [iV a,.ref 1,.ref 5,iV tt,iV kk,.ref 6,.jref 7],.row 40 5 b x,.row 3 1 b (λi=>iV (r i)),jgZ,.cells [iV (th b),iV 0,iV ((shG n f b)).src,iV (lo b),iV 0]]⟩
def Ly (a:Int) (n:Nat) (f:Nat->E6):Lp:=⟨(bmK 132 0 [4,5,6,9,10,11,13,15,16,17,18]),9,bmK 132 0 [4,5,6,9,10,11,13,15,16,17],9,n+1⟩
def Nq (a:Int) (n:Nat) (f:Nat->E6) (b:Nat) (tt kk:Int) (th lo:Nat->Int) (x:Nat->V) (r:Nat->Int) (p:Int) (c:Nat) (j:Nat->V):St:=⟨(jsV 132 0 j [(4,.ptr 0 0),(5,iV 0),(6,iV 0),(9,.ref 1),(10,nV n),(11,.ref 2),(13,.ref 3),(15,.ptr 4 0),(16,nV b),(17,.ptr 8 0),(18,nV c)]),[c7Z,.row 44 6 n (λi=>eV (shG n f i)),.row 3 1 n (λk=>iV (th k)),.row 3 1 n (λk=>iV (lo k)),.cells [iV a,.ref 1,.ref 5,iV tt,iV kk,.ref 6,.jref 7],.row 40 5 b x,.row 3 1 b (λi=>iV (r i)),jgZ,.cells [iV (th b),iV p,iV ((shG n f b)).src,iV (lo b),iV 0]]⟩
def CZ (a:Int) (n:Nat) (f:Nat->E6) (b:Nat) (tt kk:Int) (th lo:Nat->Int) (x:Nat->V) (r:Nat->Int) (p:Int) (c:Nat):Ex × St:=(.ex 2,⟨(jsV 132 0 (λ_=>.und) [(4,.ptr 0 0),(5,iV 0),(6,iV 0),(9,.ref 1),(10,nV n),(11,.ref 2),(13,.ref 3),(15,.ptr 4 0),(16,nV b),(17,.ptr 8 0)]),[c7Z,.row 44 6 n (λi=>eV (shG n f i)),.row 3 1 n (λk=>iV (th k)),.row 3 1 n (λk=>iV (lo k)),.cells [iV a,.ref 1,.ref 5,iV tt,iV kk,.ref 6,.jref 7],.row 40 5 b x,.row 3 1 b (λi=>iV (r i)),jgZ,.cells [iV (th b),iV p,iV ((shG n f b)).src,iV (lo b),iV 0]]⟩)
noncomputable def CC (L:LT):St->T (Ex × St):=λst=>AF tab ⟨CV,L,Gl⟩ (A1 Try.f15 2) 2 st
section
variable (L:LT) (a:Int) (n:Nat) (f:Nat->E6) (b:Nat) (tt kk:Int) (th lo:Nat->Int) (x:Nat->V) (r:Nat->Int) (p:Int) (c:Nat)  (j:Nat->V)
include L a n f b tt kk th lo x r p c j
theorem Aiw (h0:ilt (ofNat c) (ofNat b) = false):Ai (CC L) (Ly a n f) (Nq a n f b tt kk th lo x r p c j) = some ((.ex 2),⟨(jsV 132 0 (λ_=>.und) [(4,(.ptr 0 0)),(5,(iV 0)),(6,(iV 0)),(9,(.ref 1)),(10,(nV n)),(11,(.ref 2)),(13,(.ref 3)),(15,(.ptr 4 0)),(16,(nV b)),(17,(.ptr 8 0))]),[c7Z,.row 44 6 n (λi=>eV (shG n f i)),.row 3 1 n (λk=>iV (th k)),.row 3 1 n (λk=>iV (lo k)),.cells [iV a,.ref 1,.ref 5,iV tt,iV kk,.ref 6,.jref 7],.row 40 5 b x,.row 3 1 b (λi=>iV (r i)),jgZ,.cells [iV (th b),iV p,iV ((shG n f b)).src,iV (lo b),iV 0]]⟩):=Aa [false] [ilt (ofNat c) (ofNat b)] (by kernel_rfl) (by simp only [h0] <;> rfl)
theorem Aiv (h0:ilt (ofNat c) (ofNat b) = true) (h19:Af (ile 0 (ofNat c)) (ilt (ofNat c) (ofNat n)) = true) (h1:nlt c n = true) (h21:Af (ile 0 (ofNat b)) (ilt (ofNat b) (ofNat n)) = true) (h2:nlt b n = true) (h3:ieq (th c) (th b) = false):Ai (CC L) (Ly a n f) (Nq a n f b tt kk th lo x r p c j) = some (.nm,⟨(jsV 132 0 (λ_=>.und) [(4,(.ptr 0 0)),(5,(iV 0)),(6,(iV 0)),(9,(.ref 1)),(10,(nV n)),(11,(.ref 2)),(13,(.ref 3)),(15,(.ptr 4 0)),(16,(nV b)),(17,(.ptr 8 0)),(18,(iV (wr .i64 (Ae (ofNat c) 1))))]),[c7Z,.row 44 6 n (λi=>eV (shG n f i)),.row 3 1 n (λk=>iV (th k)),.row 3 1 n (λk=>iV (lo k)),.cells [iV a,.ref 1,.ref 5,iV tt,iV kk,.ref 6,.jref 7],.row 40 5 b x,.row 3 1 b (λi=>iV (r i)),jgZ,.cells [iV (th b),iV p,iV ((shG n f b)).src,iV (lo b),iV 0]]⟩):=Aa (bbK 6 31) [ilt (ofNat c) (ofNat b),Af (ile 0 (ofNat c)) (ilt (ofNat c) (ofNat n)),nlt c n,Af (ile 0 (ofNat b)) (ilt (ofNat b) (ofNat n)),nlt b n,ieq (th c) (th b)] (by kernel_rfl) (by simp only [h19,h21] <;> simp only [*] <;> rfl)
theorem Aiu (h0:ilt (ofNat c) (ofNat b) = true) (h19:Af (ile 0 (ofNat c)) (ilt (ofNat c) (ofNat n)) = true) (h1:nlt c n = true) (h21:Af (ile 0 (ofNat b)) (ilt (ofNat b) (ofNat n)) = true) (h2:nlt b n = true) (h3:ieq (th c) (th b) = true):Ai (CC L) (Ly a n f) (Nq a n f b tt kk th lo x r p c j) = some (.nm,⟨(jsV 132 0 (λ_=>.und) [(4,(.ptr 0 0)),(5,(iV 0)),(6,(iV 0)),(9,(.ref 1)),(10,(nV n)),(11,(.ref 2)),(13,(.ref 3)),(15,(.ptr 4 0)),(16,(nV b)),(17,(.ptr 8 0)),(18,(iV (wr .i64 (Ae (ofNat c) 1))))]),[c7Z,.row 44 6 n (λi=>eV (shG n f i)),.row 3 1 n (λk=>iV (th k)),.row 3 1 n (λk=>iV (lo k)),.cells [iV a,.ref 1,.ref 5,iV tt,iV kk,.ref 6,.jref 7],.row 40 5 b x,.row 3 1 b (λi=>iV (r i)),jgZ,.cells [iV (th b),iV (wr .i64 (Ae p 1)),iV ((shG n f b)).src,iV (lo b),iV 0]]⟩):=Aa (bbK 6 63) [ilt (ofNat c) (ofNat b),Af (ile 0 (ofNat c)) (ilt (ofNat c) (ofNat n)),nlt c n,Af (ile 0 (ofNat b)) (ilt (ofNat b) (ofNat n)),nlt b n,ieq (th c) (th b)] (by kernel_rfl) (by simp only [h19,h21] <;> simp only [*] <;> rfl)
end
section
variable (L:LT) (p2:PT) (a:Int) (n:Nat) (f:Nat->E6) (b:Nat) (tt kk:Int) (th lo:Nat->Int) (x:Nat->V) (r:Nat->Int) (p:Int) (j:Nat->V)
include L p2 a n f b tt kk th lo x r p j
theorem AeX (h0:ilt (ofNat b) (ofNat n) = true) (h17:ile 0 (ofNat b) = true) (h18:nlt b n = true) (h19:Bg b 1 40 = true) (h20:Bg b 1 8 = true) (h1:ile tt (th b) = true) (h2:ile kk (lo b) = true) (hp2:p2 (CC (onP 2 p2 (CZ a n f b tt kk th lo x r p b) L)) (Ej a n f b tt kk th lo x r j) = true):Ai (Fq (onP 2 p2 (CZ a n f b tt kk th lo x r p b) L)) (J5 a n f) (JI a n f b tt kk th lo x r j) = some (.nm,⟨(jsV 132 0 (λ_=>.und) [(4,(.ptr 0 0)),(5,(iV 0)),(6,(iV 0)),(9,(.ref 1)),(10,(nV n)),(11,(.ref 2)),(13,(.ref 3)),(15,(.ptr 4 0)),(16,(iV (wr .i64 (Ae (ofNat b) 1))))]),[c7Z,.row 44 6 n (λi=>eV (shG n f i)),.row 3 1 n (λk=>iV (th k)),.row 3 1 n (λk=>iV (lo k)),.cells [iV a,.ref 1,.ref 5,iV (wr .i64 (Ae (th b) 1)),iV (wr .i64 (Ae (lo b) 1)),.ref 6,.jref 7],.row 40 5 (Bn b 1) (AE b x (.agg [iV (th b),iV p,iV ((shG n f b)).src,iV (lo b),iV 0])),.row 3 1 (Bn b 1) (AE b (λi=>iV (r i)) (iV (-1))),jgZ]⟩):=Aa (bbK 62 4611686018427387903) ((λc0 c1 c2 c3 c4 c5 c6 c7=>[ilt (ofNat b) (ofNat n),c0,c1,c0,c1,c0,c1,c2,c0,c3,c1,c4,c2,c0,c3,c3,c1,c5,c2,c0,c3,c1,c6,c4,c7,c5,c6,c7,c2,c0,c3,c1,c4,c2,c0,c3,c3,c1,c5,c2,c0,c3,c1,c6,c4,c7,c5,c6,c7,p2 (CC (onP 2 p2 (CZ a n f b tt kk th lo x r p b) L)) (Ej a n f b tt kk th lo x r j),Bg b 1 40,Bg b 1 8,c0,c1,ile tt (th b),c0,c1,c0,c1,ile kk (lo b),c0,c1]) (Af (ile 0 (ofNat b)) (ilt (ofNat b) (ofNat n))) (nlt b n) (ieq (ofNat b) (ofNat b)) (A3 b b) (ieq (th b) (th b)) (ieq ((shG n f b)).src ((shG n f b)).src) (ieq (lo b) (lo b)) (ieq 0 0)) (by kernel_rfl) (by simp only [hp2] <;> simp only [*,Bv,nbeq_self] <;> rfl)
theorem AeY (h0:ilt (ofNat b) (ofNat n) = true) (h17:ile 0 (ofNat b) = true) (h18:nlt b n = true) (h19:Bg b 1 40 = true) (h20:Bg b 1 8 = true) (h1:ile tt (th b) = true) (h2:ile kk (lo b) = false) (hp2:p2 (CC (onP 2 p2 (CZ a n f b tt kk th lo x r p b) L)) (Ej a n f b tt kk th lo x r j) = true):Ai (Fq (onP 2 p2 (CZ a n f b tt kk th lo x r p b) L)) (J5 a n f) (JI a n f b tt kk th lo x r j) = some (.nm,⟨(jsV 132 0 (λ_=>.und) [(4,(.ptr 0 0)),(5,(iV 0)),(6,(iV 0)),(9,(.ref 1)),(10,(nV n)),(11,(.ref 2)),(13,(.ref 3)),(15,(.ptr 4 0)),(16,(iV (wr .i64 (Ae (ofNat b) 1))))]),[c7Z,.row 44 6 n (λi=>eV (shG n f i)),.row 3 1 n (λk=>iV (th k)),.row 3 1 n (λk=>iV (lo k)),.cells [iV a,.ref 1,.ref 5,iV (wr .i64 (Ae (th b) 1)),iV kk,.ref 6,.jref 7],.row 40 5 (Bn b 1) (AE b x (.agg [iV (th b),iV p,iV ((shG n f b)).src,iV (lo b),iV 0])),.row 3 1 (Bn b 1) (AE b (λi=>iV (r i)) (iV (-1))),jgZ]⟩):=Aa (bbK 60 576460752303423487) ((λc0 c1 c2 c3 c4 c5 c6 c7=>[ilt (ofNat b) (ofNat n),c0,c1,c0,c1,c0,c1,c2,c0,c3,c1,c4,c2,c0,c3,c3,c1,c5,c2,c0,c3,c1,c6,c4,c7,c5,c6,c7,c2,c0,c3,c1,c4,c2,c0,c3,c3,c1,c5,c2,c0,c3,c1,c6,c4,c7,c5,c6,c7,p2 (CC (onP 2 p2 (CZ a n f b tt kk th lo x r p b) L)) (Ej a n f b tt kk th lo x r j),Bg b 1 40,Bg b 1 8,c0,c1,ile tt (th b),c0,c1,c0,c1,ile kk (lo b)]) (Af (ile 0 (ofNat b)) (ilt (ofNat b) (ofNat n))) (nlt b n) (ieq (ofNat b) (ofNat b)) (A3 b b) (ieq (th b) (th b)) (ieq ((shG n f b)).src ((shG n f b)).src) (ieq (lo b) (lo b)) (ieq 0 0)) (by kernel_rfl) (by simp only [hp2] <;> simp only [*,Bv,nbeq_self] <;> rfl)
theorem AeZ (h0:ilt (ofNat b) (ofNat n) = true) (h17:ile 0 (ofNat b) = true) (h18:nlt b n = true) (h19:Bg b 1 40 = true) (h20:Bg b 1 8 = true) (h1:ile tt (th b) = false) (h2:ile kk (lo b) = true) (hp2:p2 (CC (onP 2 p2 (CZ a n f b tt kk th lo x r p b) L)) (Ej a n f b tt kk th lo x r j) = true):Ai (Fq (onP 2 p2 (CZ a n f b tt kk th lo x r p b) L)) (J5 a n f) (JI a n f b tt kk th lo x r j) = some (.nm,⟨(jsV 132 0 (λ_=>.und) [(4,(.ptr 0 0)),(5,(iV 0)),(6,(iV 0)),(9,(.ref 1)),(10,(nV n)),(11,(.ref 2)),(13,(.ref 3)),(15,(.ptr 4 0)),(16,(iV (wr .i64 (Ae (ofNat b) 1))))]),[c7Z,.row 44 6 n (λi=>eV (shG n f i)),.row 3 1 n (λk=>iV (th k)),.row 3 1 n (λk=>iV (lo k)),.cells [iV a,.ref 1,.ref 5,iV tt,iV (wr .i64 (Ae (lo b) 1)),.ref 6,.jref 7],.row 40 5 (Bn b 1) (AE b x (.agg [iV (th b),iV p,iV ((shG n f b)).src,iV (lo b),iV 0])),.row 3 1 (Bn b 1) (AE b (λi=>iV (r i)) (iV (-1))),jgZ]⟩):=Aa (bbK 60 1134907106097364991) ((λc0 c1 c2 c3 c4 c5 c6 c7=>[ilt (ofNat b) (ofNat n),c0,c1,c0,c1,c0,c1,c2,c0,c3,c1,c4,c2,c0,c3,c3,c1,c5,c2,c0,c3,c1,c6,c4,c7,c5,c6,c7,c2,c0,c3,c1,c4,c2,c0,c3,c3,c1,c5,c2,c0,c3,c1,c6,c4,c7,c5,c6,c7,p2 (CC (onP 2 p2 (CZ a n f b tt kk th lo x r p b) L)) (Ej a n f b tt kk th lo x r j),Bg b 1 40,Bg b 1 8,c0,c1,ile tt (th b),c0,c1,ile kk (lo b),c0,c1]) (Af (ile 0 (ofNat b)) (ilt (ofNat b) (ofNat n))) (nlt b n) (ieq (ofNat b) (ofNat b)) (A3 b b) (ieq (th b) (th b)) (ieq ((shG n f b)).src ((shG n f b)).src) (ieq (lo b) (lo b)) (ieq 0 0)) (by kernel_rfl) (by simp only [hp2] <;> simp only [*,Bv,nbeq_self] <;> rfl)
theorem Afa (h0:ilt (ofNat b) (ofNat n) = true) (h17:ile 0 (ofNat b) = true) (h18:nlt b n = true) (h19:Bg b 1 40 = true) (h20:Bg b 1 8 = true) (h1:ile tt (th b) = false) (h2:ile kk (lo b) = false) (hp2:p2 (CC (onP 2 p2 (CZ a n f b tt kk th lo x r p b) L)) (Ej a n f b tt kk th lo x r j) = true):Ai (Fq (onP 2 p2 (CZ a n f b tt kk th lo x r p b) L)) (J5 a n f) (JI a n f b tt kk th lo x r j) = some (.nm,⟨(jsV 132 0 (λ_=>.und) [(4,(.ptr 0 0)),(5,(iV 0)),(6,(iV 0)),(9,(.ref 1)),(10,(nV n)),(11,(.ref 2)),(13,(.ref 3)),(15,(.ptr 4 0)),(16,(iV (wr .i64 (Ae (ofNat b) 1))))]),[c7Z,.row 44 6 n (λi=>eV (shG n f i)),.row 3 1 n (λk=>iV (th k)),.row 3 1 n (λk=>iV (lo k)),.cells [iV a,.ref 1,.ref 5,iV tt,iV kk,.ref 6,.jref 7],.row 40 5 (Bn b 1) (AE b x (.agg [iV (th b),iV p,iV ((shG n f b)).src,iV (lo b),iV 0])),.row 3 1 (Bn b 1) (AE b (λi=>iV (r i)) (iV (-1))),jgZ]⟩):=Aa (bbK 58 126100789566373887) ((λc0 c1 c2 c3 c4 c5 c6 c7=>[ilt (ofNat b) (ofNat n),c0,c1,c0,c1,c0,c1,c2,c0,c3,c1,c4,c2,c0,c3,c3,c1,c5,c2,c0,c3,c1,c6,c4,c7,c5,c6,c7,c2,c0,c3,c1,c4,c2,c0,c3,c3,c1,c5,c2,c0,c3,c1,c6,c4,c7,c5,c6,c7,p2 (CC (onP 2 p2 (CZ a n f b tt kk th lo x r p b) L)) (Ej a n f b tt kk th lo x r j),Bg b 1 40,Bg b 1 8,c0,c1,ile tt (th b),c0,c1,ile kk (lo b)]) (Af (ile 0 (ofNat b)) (ilt (ofNat b) (ofNat n))) (nlt b n) (ieq (ofNat b) (ofNat b)) (A3 b b) (ieq (th b) (th b)) (ieq ((shG n f b)).src ((shG n f b)).src) (ieq (lo b) (lo b)) (ieq 0 0)) (by kernel_rfl) (by simp only [hp2] <;> simp only [*,Bv,nbeq_self] <;> rfl)
end
def Lx (a:Int) (n:Nat) (f:Nat->E6):Lp:=⟨(bmK 132 0 [4,15,19]),8,bmK 132 0 [4,15],8,17⟩
def Np (a:Int) (n:Nat) (f:Nat->E6) (b kk:Nat) (tt:Int) (th lo:Nat->Int) (x:Nat->Ev5) (r:Nat->Int) (ln:Nat->Nat) (co:Nat->Nat->Int) (j:Nat->V):St:=⟨(jsV 132 0 j [(4,.ptr 0 0),(15,.ptr 4 0),(19,nV b)]),[c7Z,.row 44 6 n (λi=>eV (shG n f i)),.row 3 1 n (λi=>iV (th i)),.row 3 1 n (λi=>iV (lo i)),.cells [iV a,.ref 1,.ref 5,iV tt,nV kk,.ref 6,.jref 7],.row 40 5 n (λi=>evV (x i)),.row 3 1 n (λi=>iV (r i)),.jag (Jag.mk 25 1 b (λ_=>.und) 0 3 1 (λ_=>true) ln (λi q=>iV (co i q)))]⟩
def HR (a:Int) (n:Nat) (f:Nat->E6) (b kk:Nat) (tt:Int) (th lo:Nat->Int) (x:Nat->Ev5) (r:Nat->Int) (ln:Nat->Nat) (co:Nat->Nat->Int):Ex × St:=(.ex 4,⟨(jsV 132 0 (λ_=>.und) [(4,.ptr 0 0),(15,.ptr 4 0)]),[c7Z,.row 44 6 n (λi=>eV (shG n f i)),.row 3 1 n (λi=>iV (th i)),.row 3 1 n (λi=>iV (lo i)),.cells [iV a,.ref 1,.ref 5,iV tt,nV kk,.ref 6,.jref 7],.row 40 5 n (λi=>evV (x i)),.row 3 1 n (λi=>iV (r i)),.jag (Jag.mk 25 1 b (λ_=>.und) 0 3 1 (λ_=>true) ln (λi q=>iV (co i q)))]⟩)
def TT (b:Nat) (u:Nat->V):List V:=(jsV 132 0 u [(4,.ptr 0 0),(15,.ptr 4 0),(19,nV b)])
noncomputable def IK (L:LT):St->T (Ex × St):=λst=>AF tab ⟨CV,L,Gl⟩ (A1 Try.f15 4) 4 st
theorem Aik (L:LT) (a:Int) (n:Nat) (f:Nat->E6) (b kk:Nat) (tt:Int) (th lo:Nat->Int) (x:Nat->Ev5) (r:Nat->Int) (ln:Nat->Nat) (co:Nat->Nat->Int)  (j:Nat->V) (h0:ilt (ofNat b) (ofNat kk) = false):(((AF tab ⟨CV,L,Gl⟩ (A1 Try.f15 4) 4 (Np a n f b kk tt th lo x r ln co j)).bind λrr=>T.leaf (Pa (Lx a n f) rr))).sem = some ((.ex 4),⟨(jsV 132 0 (λ_=>.und) [(4,(.ptr 0 0)),(15,(.ptr 4 0))]),[c7Z,.row 44 6 n (λi=>eV (shG n f i)),.row 3 1 n (λi=>iV (th i)),.row 3 1 n (λi=>iV (lo i)),.cells [iV a,.ref 1,.ref 5,iV tt,nV kk,.ref 6,.jref 7],.row 40 5 n (λi=>.agg [iV ((x i)).th,iV ((x i)).pl,iV ((x i)).dir,iV ((x i)).loc,iV ((x i)).val]),.row 3 1 n (λi=>iV (r i)),.jag (Jag.mk 25 1 b (λ_=>.und) 0 3 1 (λ_=>true) ln (λi q=>iV (co i q)))]⟩):=Aa [false] [ilt (ofNat b) (ofNat kk)] (by kernel_rfl) (by simp only [h0] <;> rfl)
theorem Aij (L:LT) (a:Int) (n:Nat) (f:Nat->E6) (b kk:Nat) (tt:Int) (th lo:Nat->Int) (x:Nat->Ev5) (r:Nat->Int) (ln:Nat->Nat) (co:Nat->Nat->Int) (u:Nat->V) (x':Nat->Ev5) (r':Nat->Int) (ln':Nat->Nat) (co':Nat->Nat->Int) (lv':Nat->Bool) (c':Nat->V) (d:List Blk) (q59:List V->St->Bool) (j:Nat->V) (h0:ilt (ofNat b) (ofNat kk) = true) (hq59:(q59 [.agg [iV a,.ref 1,.ref 5,iV tt,nV kk,.ref 6,.jref 7],nV b] ⟨(jsV 132 0 j [(4,(.ptr 0 0)),(15,(.ptr 4 0)),(19,(nV b)),(122,(nV b)),(123,(.ptr 4 4)),(124,(nV kk)),(125,(bV (ilt (ofNat b) (ofNat kk)))),(128,(.agg [iV a,.ref 1,.ref 5,iV tt,nV kk,.ref 6,.jref 7])),(129,(nV b))]),[c7Z,.row 44 6 n (λi=>eV (shG n f i)),.row 3 1 n (λi=>iV (th i)),.row 3 1 n (λi=>iV (lo i)),.cells [iV a,.ref 1,.ref 5,iV tt,nV kk,.ref 6,.jref 7],.row 40 5 n (λi=>.agg [iV ((x i)).th,iV ((x i)).pl,iV ((x i)).dir,iV ((x i)).loc,iV ((x i)).val]),.row 3 1 n (λi=>iV (r i)),.jag (Jag.mk 25 1 b (λ_=>.und) 0 3 1 (λ_=>true) ln (λi q=>iV (co i q)))]⟩) = true):(((AF tab ⟨(onC 59 q59 ((.agg [iV a,.ref 1,.ref 5,iV tt,nV kk,.ref 6,.jref 7]),.all ⟨TT b u,[c7Z,.row 44 6 n (λi=>eV (shG n f i)),.row 3 1 n (λi=>iV (th i)),.row 3 1 n (λi=>iV (lo i)),.cells [iV a,.ref 1,.ref 5,iV tt,nV kk,.ref 6,.und],.row 40 5 n (λi=>evV (x' i)),.row 3 1 n (λi=>iV (r' i)),.jag (Jag.mk 25 1 (Bn b 1) c' 0 3 1 lv' ln' (λi q=>iV (co' i q)))] ++ d⟩) (CV)),L,Gl⟩ (A1 Try.f15 4) 4 (Np a n f b kk tt th lo x r ln co j)).bind λrr=>T.leaf (Pa (Lx a n f) rr))).sem = some (.nm,⟨(jsV 132 0 (λ_=>.und) [(4,(.ptr 0 0)),(15,(.ptr 4 0)),(19,(iV (wr .i64 (Ae (ofNat b) 1))))]),[c7Z,.row 44 6 n (λi=>eV (shG n f i)),.row 3 1 n (λi=>iV (th i)),.row 3 1 n (λi=>iV (lo i)),.cells [iV a,.ref 1,.ref 5,iV tt,nV kk,.ref 6,.jref 7],.row 40 5 n (λi=>.agg [iV ((x' i)).th,iV ((x' i)).pl,iV ((x' i)).dir,iV ((x' i)).loc,iV ((x' i)).val]),.row 3 1 n (λi=>iV (r' i)),.jag (Jag.mk 25 1 (Bn b 1) c' 0 3 1 lv' ln' (λi q=>iV (co' i q)))]⟩):=Aa [true,true] [ilt (ofNat b) (ofNat kk),q59 [.agg [iV a,.ref 1,.ref 5,iV tt,nV kk,.ref 6,.jref 7],nV b] ⟨(jsV 132 0 j [(4,(.ptr 0 0)),(15,(.ptr 4 0)),(19,(nV b)),(122,(nV b)),(123,(.ptr 4 4)),(124,(nV kk)),(125,(bV (ilt (ofNat b) (ofNat kk)))),(128,(.agg [iV a,.ref 1,.ref 5,iV tt,nV kk,.ref 6,.jref 7])),(129,(nV b))]),[c7Z,.row 44 6 n (λi=>eV (shG n f i)),.row 3 1 n (λi=>iV (th i)),.row 3 1 n (λi=>iV (lo i)),.cells [iV a,.ref 1,.ref 5,iV tt,nV kk,.ref 6,.jref 7],.row 40 5 n (λi=>.agg [iV ((x i)).th,iV ((x i)).pl,iV ((x i)).dir,iV ((x i)).loc,iV ((x i)).val]),.row 3 1 n (λi=>iV (r i)),.jag (Jag.mk 25 1 b (λ_=>.und) 0 3 1 (λ_=>true) ln (λi q=>iV (co i q)))]⟩] (by kernel_rfl) (by simp only [hq59] <;> simp only [h0] <;> rfl)
def MP (a:Int) (n:Nat) (f:Nat->E6) (tt:Int) (kk:Nat) (th lo:Nat->Int) (x:Nat->Ev5) (r:Nat->Int):St:=⟨(jsV 132 0 (λ_=>.und) [(4,(.ptr 0 0)),(5,(iV 0)),(6,(iV 0)),(15,(.ptr 4 0)),(19,(iV 0))]),[c7Z,.row 44 6 n (λi=>eV (shG n f i)),.row 3 1 n (λk=>iV (th k)),.row 3 1 n (λk=>iV (lo k)),.cells [iV a,.ref 1,.ref 5,iV tt,nV kk,.ref 6,.jref 7],.row 40 5 n (λi=>.agg [iV ((x i)).th,iV ((x i)).pl,iV ((x i)).dir,iV ((x i)).loc,iV ((x i)).val]),.row 3 1 n (λi=>iV (r i)),jgZ]⟩
theorem Akr (L:LT) (p0:PT) (p4:PT) (a:Int) (n:Nat) (f:Nat->E6) (tt:Int) (kk:Nat) (th lo:Nat->Int) (x:Nat->Ev5) (r:Nat->Int) (x':Nat->Ev5) (r':Nat->Int) (ln':Nat->Nat) (co':Nat->Nat->Int) (h16:AN n = true) (h0:ieq (BR a n f) 0 = true) (h1:ZQ n f = true) (h17:BM n (λi=>shG n f i) = true) (h18:AW [.row 3 1 n (λ_=>iV 0)] = true) (hp0:p0 (Fq (onP 0 p0 (O2 a n f n tt (ofNat kk) th lo (λi=>evV (x i)) r) (onP 4 p4 (HR a n f kk kk tt th lo x' r' ln' co') L))) (Wi a n f) = true) (hp4:p4 (IK (onP 0 p0 (O2 a n f n tt (ofNat kk) th lo (λi=>evV (x i)) r) (onP 4 p4 (HR a n f kk kk tt th lo x' r' ln' co') L))) (MP a n f tt kk th lo x r) = true):(Az (Ak tab ⟨CV,onP 0 p0 (O2 a n f n tt (ofNat kk) th lo (λi=>evV (x i)) r) (onP 4 p4 (HR a n f kk kk tt th lo x' r' ln' co') L),Gl⟩ Try.f15 [iV a,.sl 6 n λi=>eV (f i)] [])).sem = some ((.tup [.agg [iV a,.ref 0,.ref 1,iV tt,nV kk,.ref 2,.jref 3],iV 0,iV 0]),[.row 44 6 n (λi=>eV (shG n f i)),.row 40 5 n (λi=>.agg [iV ((x' i)).th,iV ((x' i)).pl,iV ((x' i)).dir,iV ((x' i)).loc,iV ((x' i)).val]),.row 3 1 n (λi=>iV (r' i)),.jag (Jag.mk 25 1 kk (λ_=>.und) 0 3 1 (λ_=>true) ln' (λi q=>iV (co' i q)))]):=Aa (bbK 16 65531) ((λc0 c1 c2 c3=>[c0,c1,An (ieq (BR a n f) 0),c0,c1,ZQ n f,c0,c1,c2,c3,c0,c1,c2,c3,p0 (Fq (onP 0 p0 (O2 a n f n tt (ofNat kk) th lo (λi=>evV (x i)) r) (onP 4 p4 (HR a n f kk kk tt th lo x' r' ln' co') L))) (Wi a n f),p4 (IK (onP 0 p0 (O2 a n f n tt (ofNat kk) th lo (λi=>evV (x i)) r) (onP 4 p4 (HR a n f kk kk tt th lo x' r' ln' co') L))) (MP a n f tt kk th lo x r)]) (Au n (λ_=>true)) (AN n) (BM n (λi=>shG n f i)) (AW [.row 3 1 n (λ_=>iV 0)])) (by kernel_rfl) (by simp only [hp0,hp4] <;> simp only [*,Aw,Ce] <;> rfl)
theorem ile_nat (a b:Nat):ile (ofNat a) (ofNat b) = decide (a <= b):=by
 unfold ile
 rw [Bool.eq_iff_iff]
 simp
theorem SR (a b:Int):ieq a b = ieq b a:=by
 unfold ieq
 rw [Bool.eq_iff_iff]
 simp only [beq_iff_eq]
 exact eq_comm
theorem Ug (L:LT) (a:Int) (n:Nat) (f:Nat->E6) (b:Nat) (tt kk:Int) (th lo:Nat->Int) (x:Nat->V) (r:Nat->Int) (hb:b < n) (hn:n <= 16):∀ (e c:Nat) (j:Nat->V) (q:Nat),b = c+e->e < q ->
  (A9 (CC L) (Ly a n f) q (Nq a n f b tt kk th lo x r (ofNat (Aj (λk=>ieq (th k) (th b)) c)) c j)).sem = some (CZ a n f b tt kk th lo x r (ofNat (Aj (λk=>ieq (th k) (th b)) b)) b)
 | 0,c,j,q+1,h,_=>by
  have:b = c:=by omega
  subst this
  exact Ad (Aiw L a n f b tt kk th lo x r _ b j (AD (Nat.le_refl _)))
 | e+1,c,j,q+1,h,h2=>by
  have hl:c < b:=by omega
  have hc:=AX (λk=>ieq (th k) (th b)) c
  cases hp:ieq (th c) (th b) with
  | true =>
   rw [Ad (Aiu L a n f b tt kk th lo x r _ c j (ofNat_lt hl) (Aq (by omega)) (decide_eq_true (by omega)) (Aq hb) (decide_eq_true hb) hp),Ax,Ao hl (by omega),Ao (n:=n) (by omega) (by omega),<- Bi (p:=λk=>ieq (th k) (th b)) hp]
   exact Ug L a n f b tt kk th lo x r hb hn e (c+1) (λ_=>.und) q (by omega) (by omega)
  | false =>
   rw [Ad (Aiv L a n f b tt kk th lo x r _ c j (ofNat_lt hl) (Aq (by omega)) (decide_eq_true (by omega)) (Aq hb) (decide_eq_true hb) hp),Ax,Ao hl (by omega),<- Br (p:=λk=>ieq (th k) (th b)) hp]
   exact Ug L a n f b tt kk th lo x r hb hn e (c+1) (λ_=>.und) q (by omega) (by omega)
theorem UH (a:Int) (n:Nat) (f:Nat->E6) (b:Nat) (tt kk:Int) (th lo:Nat->Int) (x:Nat->V) (r:Nat->Int) (j:Nat->V):Ej a n f b tt kk th lo x r j = Nq a n f b tt kk th lo x r 0 0 (λi=>nth (Ej a n f b tt kk th lo x r j).t i):=by kernel_rfl
theorem Ajx {p:Nat->Bool} {n b:Nat} (hb:b < n) (hn:n <= 16):(ile (ofNat (rN p n b)) (Av p n b) = true ∧ wr .i64 (Ae (Av p n b) 1) = ofNat (rN p n (b+1))) ∨ (ile (ofNat (rN p n b)) (Av p n b) = false ∧ rN p n b = rN p n (b+1)):=by
 have h1:=Kt p n b hb
 have h2:=Sg p n b
 rw [F0 hb,Ao (n:=n) (by omega) (by omega),ile_nat,rN]
 by_cases h:Bc p n b < rN p n b
 ·rw [if_pos h]
  exact .inr ⟨decide_eq_false (by omega),rfl⟩
 ·rw [if_neg h]
  exact .inl ⟨decide_eq_true (by omega),by rw [show Bc p n b = rN p n b by omega]⟩
theorem AcB (M:LT) (hMM:LLe M M) (a:Int) (n:Nat) (f:Nat->E6) (m2:∀ g st,M 2 g st = A9 g (Ly a n f) (n+1) st) (hn:n <= 16):∀ (e b:Nat) (j:Nat->V) (q:Nat),n = b+e->e < q ->
  (A9 (Fq M) (J5 a n f) q (JI a n f b (ofNat (rN (obF (shG n f)) n b)) (ofNat (rN (mbF (shG n f)) n b)) (thF n (shG n f)) (loF n (shG n f)) (λi=>evV (upX n (shG n f) b i)) (λ_=>-1) j)).sem = some (O2 a n f n (ofNat (rN (obF (shG n f)) n n)) (ofNat (rN (mbF (shG n f)) n n)) (thF n (shG n f)) (loF n (shG n f)) (λi=>evV (upX n (shG n f) n i)) (λ_=>-1))
 | 0,b,j,q+1,h,_=>by
  have:n = b:=by omega
  subst this
  exact Ad (Ai2 M a n f n _ _ _ _ _ _ j (AD (Nat.le_refl _)))
 | e+1,b,j,q+1,h,h2=>by
  have hl:b < n:=by omega
  have hi:∀ M',(M 2 (CC M') (Ej a n f b (ofNat (rN (obF (shG n f)) n b)) (ofNat (rN (mbF (shG n f)) n b)) (thF n (shG n f)) (loF n (shG n f)) (λi=>evV (upX n (shG n f) b i)) (λ_=>-1) j)).sem = some (CZ a n f b (ofNat (rN (obF (shG n f)) n b)) (ofNat (rN (mbF (shG n f)) n b)) (thF n (shG n f)) (loF n (shG n f)) (λi=>evV (upX n (shG n f) b i)) (λ_=>-1) (ofNat (Aj (λk=>ieq (thF n (shG n f) k) (thF n (shG n f) b)) b)) b):=λM'=>by
   rw [m2,UH]
   exact Ug M' a n f b (ofNat (rN (obF (shG n f)) n b)) (ofNat (rN (mbF (shG n f)) n b)) (thF n (shG n f)) (loF n (shG n f)) (λi=>evV (upX n (shG n f) b i)) (λ_=>-1) hl hn b 0 _ (n+1) (by omega) (by omega)
  have hx:=RE n (shG n f) b
  rw [show evV (evF n (shG n f) (λ_=>false) b) = .agg [iV (thF n (shG n f) b),iV (ofNat (Aj (λk=>ieq (thF n (shG n f) k) (thF n (shG n f) b)) b)),iV (shG n f b).src,iV (loF n (shG n f) b),iV 0] by
   rw [BK hl,show Aj (λk=>ieq (thF n (shG n f) k) (thF n (shG n f) b)) b = plF n (shG n f) b from E9 λi _=>SR _ _]; rfl] at hx
  have next:=AcB M hMM a n f m2 hn e (b+1) (λ_=>.und) q (by omega) (by omega)
  rcases Ajx (p:=obF (shG n f)) hl hn with ⟨c1,w1⟩ | ⟨c1,w1⟩ <;> rcases Ajx (p:=mbF (shG n f)) hl hn with ⟨c2,w2⟩ | ⟨c2,w2⟩
  ·have w1:wr .i64 (Ae (thF n (shG n f) b) 1) = _:=w1
   have w2:wr .i64 (Ae (loF n (shG n f) b) 1) = _:=w2
   have h3:=AeX M _ a n f b (ofNat (rN (obF (shG n f)) n b)) (ofNat (rN (mbF (shG n f)) n b)) (thF n (shG n f)) (loF n (shG n f)) (λi=>evV (upX n (shG n f) b i)) (λ_=>-1) (ofNat (Aj (λk=>ieq (thF n (shG n f) k) (thF n (shG n f) b)) b)) j (ofNat_lt hl) (AI b) (decide_eq_true hl) (Ca (by omega)) (Ca (by omega)) c1 c2 (Am (hi _))
   have h4:Ai (Fq M) (J5 a n f) (JI a n f b (ofNat (rN (obF (shG n f)) n b)) (ofNat (rN (mbF (shG n f)) n b)) (thF n (shG n f)) (loF n (shG n f)) (λi=>evV (upX n (shG n f) b i)) (λ_=>-1) j) = _:=Du (l:=J5 a n f) (ES (Γ:=⟨CV,M,Gl⟩) (Ay hMM hMM) (A1 Try.f15 0) 0 (JI a n f b (ofNat (rN (obF (shG n f)) n b)) (ofNat (rN (mbF (shG n f)) n b)) (thF n (shG n f)) (loF n (shG n f)) (λi=>evV (upX n (shG n f) b i)) (λ_=>-1) j)) h3
   rw [Ad h4,Ax,Ao hl (by omega),hx,E0]
   rw [w1,w2]
   exact next
  ·have w1:wr .i64 (Ae (thF n (shG n f) b) 1) = _:=w1
   have h3:=AeY M _ a n f b (ofNat (rN (obF (shG n f)) n b)) (ofNat (rN (mbF (shG n f)) n b)) (thF n (shG n f)) (loF n (shG n f)) (λi=>evV (upX n (shG n f) b i)) (λ_=>-1) (ofNat (Aj (λk=>ieq (thF n (shG n f) k) (thF n (shG n f) b)) b)) j (ofNat_lt hl) (AI b) (decide_eq_true hl) (Ca (by omega)) (Ca (by omega)) c1 c2 (Am (hi _))
   have h4:Ai (Fq M) (J5 a n f) (JI a n f b (ofNat (rN (obF (shG n f)) n b)) (ofNat (rN (mbF (shG n f)) n b)) (thF n (shG n f)) (loF n (shG n f)) (λi=>evV (upX n (shG n f) b i)) (λ_=>-1) j) = _:=Du (l:=J5 a n f) (ES (Γ:=⟨CV,M,Gl⟩) (Ay hMM hMM) (A1 Try.f15 0) 0 (JI a n f b (ofNat (rN (obF (shG n f)) n b)) (ofNat (rN (mbF (shG n f)) n b)) (thF n (shG n f)) (loF n (shG n f)) (λi=>evV (upX n (shG n f) b i)) (λ_=>-1) j)) h3
   rw [Ad h4,Ax,Ao hl (by omega),hx,E0]
   rw [w1,w2]
   exact next
  ·have w2:wr .i64 (Ae (loF n (shG n f) b) 1) = _:=w2
   have h3:=AeZ M _ a n f b (ofNat (rN (obF (shG n f)) n b)) (ofNat (rN (mbF (shG n f)) n b)) (thF n (shG n f)) (loF n (shG n f)) (λi=>evV (upX n (shG n f) b i)) (λ_=>-1) (ofNat (Aj (λk=>ieq (thF n (shG n f) k) (thF n (shG n f) b)) b)) j (ofNat_lt hl) (AI b) (decide_eq_true hl) (Ca (by omega)) (Ca (by omega)) c1 c2 (Am (hi _))
   have h4:Ai (Fq M) (J5 a n f) (JI a n f b (ofNat (rN (obF (shG n f)) n b)) (ofNat (rN (mbF (shG n f)) n b)) (thF n (shG n f)) (loF n (shG n f)) (λi=>evV (upX n (shG n f) b i)) (λ_=>-1) j) = _:=Du (l:=J5 a n f) (ES (Γ:=⟨CV,M,Gl⟩) (Ay hMM hMM) (A1 Try.f15 0) 0 (JI a n f b (ofNat (rN (obF (shG n f)) n b)) (ofNat (rN (mbF (shG n f)) n b)) (thF n (shG n f)) (loF n (shG n f)) (λi=>evV (upX n (shG n f) b i)) (λ_=>-1) j)) h3
   rw [Ad h4,Ax,Ao hl (by omega),hx,E0]
   rw [w1,w2]
   exact next
  ·have h3:=Afa M _ a n f b (ofNat (rN (obF (shG n f)) n b)) (ofNat (rN (mbF (shG n f)) n b)) (thF n (shG n f)) (loF n (shG n f)) (λi=>evV (upX n (shG n f) b i)) (λ_=>-1) (ofNat (Aj (λk=>ieq (thF n (shG n f) k) (thF n (shG n f) b)) b)) j (ofNat_lt hl) (AI b) (decide_eq_true hl) (Ca (by omega)) (Ca (by omega)) c1 c2 (Am (hi _))
   have h4:Ai (Fq M) (J5 a n f) (JI a n f b (ofNat (rN (obF (shG n f)) n b)) (ofNat (rN (mbF (shG n f)) n b)) (thF n (shG n f)) (loF n (shG n f)) (λi=>evV (upX n (shG n f) b i)) (λ_=>-1) j) = _:=Du (l:=J5 a n f) (ES (Γ:=⟨CV,M,Gl⟩) (Ay hMM hMM) (A1 Try.f15 0) 0 (JI a n f b (ofNat (rN (obF (shG n f)) n b)) (ofNat (rN (mbF (shG n f)) n b)) (thF n (shG n f)) (loF n (shG n f)) (λi=>evV (upX n (shG n f) b i)) (λ_=>-1) j)) h3
   rw [Ad h4,Ax,Ao hl (by omega),hx,E0]
   rw [w1,w2]
   exact next
def lnR (n:Nat) (g:Nat->E6) (b k:Nat):Nat:=if k < b then lnN (mbF g) (wrF g) n k else 0
def coR (n:Nat) (g:Nat->E6) (b k q:Nat):Int:=if k < b ∧ q < lnN (mbF g) (wrF g) n k then ofNat (coN (mbF g) (wrF g) n k q) else 0
theorem Zk (n:Nat) (g:Nat->E6) (b:Nat):(λi=>sel (A3 i b) (wcN (wrF g) n (stN (mbF g) n b) (Cn (mbF g) n (stN (mbF g) n b))) (lnR n g b i)) = lnR n g (b+1):=by
 funext i
 unfold lnR
 by_cases hi:i = b
 ·subst hi
  rw [show A3 i i = true from Nat.beq_refl _,if_pos (Nat.lt_succ_self _)]
  rfl
 ·rw [show A3 i b = false from nbeq_ne hi]
  by_cases h:i < b
  ·rw [if_pos h,if_pos (by omega)]; rfl
  ·rw [if_neg h,if_neg (by omega)]; rfl
theorem Aaa {n:Nat} {g:Nat->E6} {b:Nat} (hb:b < kkN n g):(λi i_1=>Cm (λi_2 i_3=>iV (coR n g b i_2 i_3)) b (λi_2=>iV (wvF n g (stN (mbF g) n b) (Cn (mbF g) n (stN (mbF g) n b)) i_2)) i i_1) = λi q=>iV (coR n g (b+1) i q):=by
 funext i q
 unfold Cm
 rw [Fv]
 have hlo:loN n g (stN (mbF g) n b) = b:=(GM hb).2.2.1
 unfold coR wvF
 rw [hlo]
 by_cases hi:i = b
 ·subst hi
  rw [show A3 i i = true from Nat.beq_refl _]
  show iV _ = iV _
  by_cases hq:q < wcN (wrF g) n (stN (mbF g) n i) (Cn (mbF g) n (stN (mbF g) n i))
  ·rw [if_pos hq,if_pos ⟨Nat.lt_succ_self _,hq⟩]
  ·rw [if_neg hq,if_neg (λh=>hq h.2)]
 ·rw [show A3 i b = false from nbeq_ne hi]
  show iV _ = iV _
  by_cases h:i < b ∧ q < lnN (mbF g) (wrF g) n i
  ·rw [if_pos h,if_pos ⟨by omega,h.2⟩]
  ·rw [if_neg h,if_neg (λh'=>h ⟨by omega,h'.2⟩)]
def hpE (a:Int) (n:Nat) (f:Nat->E6) (th lo:Nat->Int) (tt:Int) (b:Nat):List Blk:=[c7Z,.row 44 6 n (λi=>eV (shG n f i)),.row 3 1 n (λi=>iV (th i)),.row 3 1 n (λi=>iV (lo i)),.cells [iV a,.ref 1,.ref 5,iV tt,iV (ofNat (kkN n (shG n f))),.ref 6,.jref 7],.row 40 5 n (λi=>evV (evF n (shG n f) (dnF n (shG n f) (loN n (shG n f)) b 0) i)),.row 3 1 n (λi=>iV (rfF n (shG n f) (dnF n (shG n f) (loN n (shG n f)) b 0) i)),.jag (Jag.mk 25 1 b (λ_=>.und) 0 3 1 (λ_=>true) (lnR n (shG n f) b) (λi q=>iV (coR n (shG n f) b i q)))]
def Ajv (a:Int) (n:Nat) (f:Nat->E6) (th lo:Nat->Int) (tt:Int) (b:Nat):List Blk:=[c7Z,.row 44 6 n (λi=>eV (shG n f i)),.row 3 1 n (λi=>iV (th i)),.row 3 1 n (λi=>iV (lo i)),.cells [iV a,.ref 1,.ref 5,iV tt,iV (ofNat (kkN n (shG n f))),.ref 6,.und],.row 40 5 n (λi=>evV (evF n (shG n f) (dnF n (shG n f) (loN n (shG n f)) b 0) i)),.row 3 1 n (λi=>iV (rfF n (shG n f) (dnF n (shG n f) (loN n (shG n f)) b 0) i)),.jag (Jag.mk 25 1 b (λ_=>.und) 0 3 1 (λ_=>true) (lnR n (shG n f) b) (λi q=>iV (coR n (shG n f) b i q)))]
def AgP (a:Int) (n:Nat) (f:Nat->E6) (tt:Int):V:=.agg [iV a,.ref 1,.ref 5,iV tt,iV (ofNat (kkN n (shG n f))),.ref 6,.jref 7]
def YA (a:Int) (n:Nat) (f:Nat->E6) (tt:Int):List Blk:=[.dead,.cells [iV a,.ref 1,.ref 5,iV tt,iV (ofNat (kkN n (shG n f))),.ref 6,.jref 7],.cells [iV a,.ref 1,.ref 5,iV tt,iV (ofNat (kkN n (shG n f))),.ref 6,.jref 7],.dead,.dead]
theorem X1 (vs:List V) (st:St):CV 59 vs st = KA tab (cxZ Gl TM KX GT) Try.f59 vs st:=by kernel_rfl
theorem U4 (q:Nat):(λi=>sel (A3 i q) true true) = λ_=>true:=by
 funext i
 cases A3 i q <;> rfl
theorem ZI (a:Int) (n k kk:Nat) (g:Nat->E6) (th lo:Nat->Int) (tt:Int) (c0:Nat->V) (x0:Nat->Ev5) (r0:Nat->Int) (ln:Nat->Nat) (co:Nat->Nat->Int) (ts:List V):CS (Om a n k kk g th lo tt c0 x0 r0 ln co ts) [(11,iV 0)] = WA a n k kk g th lo tt c0 x0 r0 ln co ts 0 0 (GD n g x0 (ofNat k)) (-1) x0 r0 (λ_=>0) (λi=>nth (Om a n k kk g th lo tt c0 x0 r0 ln co ts).t i):=by kernel_rfl
theorem AgV (n:Nat) (g:Nat->E6) (z:Nat):wvF n g z 0 = λ_=>0:=by
 funext q
 unfold wvF
 rw [show wcN (wrF g) n z 0 = 0 from rfl,if_neg (Nat.not_lt_zero _)]
theorem AgL (a:Int) (n:Nat) (f:Nat->E6) (hn:n <= 16) (b:Nat) (th lo:Nat->Int) (tt:Int) (ts:List V) (hb:b < kkN n (shG n f)):∃ F,EZ F ∧
  (CV 59 [AgP a n f tt,nV b] ⟨ts,hpE a n f th lo tt b⟩).sem = some (AgP a n f tt,.all ⟨ts.map F,Ajv a n f th lo tt (b+1) ++ YA a n f tt⟩):=by
 obtain ⟨hz,hst,hlo,_⟩:=GM hb
 have hlo:loN n (shG n f) (stN (mbF (shG n f)) n b) = b:=hlo
 have hL:=DU KX GT
 have hrun:=AhY a n (stN (mbF (shG n f)) n b) (shG n f) th lo tt (λ_=>.und) (evF n (shG n f) (dnF n (shG n f) (loN n (shG n f)) b 0)) (rfF n (shG n f) (dnF n (shG n f) (loN n (shG n f)) b 0)) (lnR n (shG n f) b) (coR n (shG n f) b) hz hst hn (Cn (mbF (shG n f)) n (stN (mbF (shG n f)) n b)) 0 17 (Nat.zero_add _).symm (by have:=(EP hz hst).2.1; omega)
 rw [hlo] at hrun
 obtain ⟨F,hF,h1⟩:=hrun
 refine ⟨_,(((hF.comp (EI 11)).comp (EI 12)).comp (EI 7)),?_⟩
 have hp:(C8 KX GT 0 (II (onP 0 (isP (C8 KX GT) 0 (JG a n b (kkN n (shG n f)) (shG n f) th lo tt (λ_=>.und) (evF n (shG n f) (dnF n (shG n f) (loN n (shG n f)) b 0)) (rfF n (shG n f) (dnF n (shG n f) (loN n (shG n f)) b 0)) (lnR n (shG n f) b) (coR n (shG n f) b) (ts.map F) 0 (wcN (wrF (shG n f)) n (stN (mbF (shG n f)) n b) (Cn (mbF (shG n f)) n (stN (mbF (shG n f)) n b))) 0 0 (evF n (shG n f) (dnF n (shG n f) (loN n (shG n f)) (b+1) 0)) (rfF n (shG n f) (dnF n (shG n f) (loN n (shG n f)) (b+1) 0)) (wvF n (shG n f) (stN (mbF (shG n f)) n b) (Cn (mbF (shG n f)) n (stN (mbF (shG n f)) n b))))) (JG a n b (kkN n (shG n f)) (shG n f) th lo tt (λ_=>.und) (evF n (shG n f) (dnF n (shG n f) (loN n (shG n f)) b 0)) (rfF n (shG n f) (dnF n (shG n f) (loN n (shG n f)) b 0)) (lnR n (shG n f) b) (coR n (shG n f) b) (ts.map F) 0 (wcN (wrF (shG n f)) n (stN (mbF (shG n f)) n b) (Cn (mbF (shG n f)) n (stN (mbF (shG n f)) n b))) 0 0 (evF n (shG n f) (dnF n (shG n f) (loN n (shG n f)) (b+1) 0)) (rfF n (shG n f) (dnF n (shG n f) (loN n (shG n f)) (b+1) 0)) (wvF n (shG n f) (stN (mbF (shG n f)) n b) (Cn (mbF (shG n f)) n (stN (mbF (shG n f)) n b)))) (C8 KX GT))) (Om a n b (kkN n (shG n f)) (shG n f) th lo tt (λ_=>.und) (evF n (shG n f) (dnF n (shG n f) (loN n (shG n f)) b 0)) (rfF n (shG n f) (dnF n (shG n f) (loN n (shG n f)) b 0)) (lnR n (shG n f) b) (coR n (shG n f) b) ts)).sem = some (JG a n b (kkN n (shG n f)) (shG n f) th lo tt (λ_=>.und) (evF n (shG n f) (dnF n (shG n f) (loN n (shG n f)) b 0)) (rfF n (shG n f) (dnF n (shG n f) (loN n (shG n f)) b 0)) (lnR n (shG n f) b) (coR n (shG n f) b) (ts.map F) 0 (wcN (wrF (shG n f)) n (stN (mbF (shG n f)) n b) (Cn (mbF (shG n f)) n (stN (mbF (shG n f)) n b))) 0 0 (evF n (shG n f) (dnF n (shG n f) (loN n (shG n f)) (b+1) 0)) (rfF n (shG n f) (dnF n (shG n f) (loN n (shG n f)) (b+1) 0)) (wvF n (shG n f) (stN (mbF (shG n f)) n b) (Cn (mbF (shG n f)) n (stN (mbF (shG n f)) n b)))):=by
  show (A9 _ _ 17 (CS (Om a n b (kkN n (shG n f)) (shG n f) th lo tt (λ_=>.und) (evF n (shG n f) (dnF n (shG n f) (loN n (shG n f)) b 0)) (rfF n (shG n f) (dnF n (shG n f) (loN n (shG n f)) b 0)) (lnR n (shG n f) b) (coR n (shG n f) b) ts) [(11,iV 0)])).sem = _
  rw [ZI,Xl hb]
  have h2:=h1 (onP 0 (isP (C8 KX GT) 0 (JG a n b (kkN n (shG n f)) (shG n f) th lo tt (λ_=>.und) (evF n (shG n f) (dnF n (shG n f) (loN n (shG n f)) b 0)) (rfF n (shG n f) (dnF n (shG n f) (loN n (shG n f)) b 0)) (lnR n (shG n f) b) (coR n (shG n f) b) (ts.map F) 0 (wcN (wrF (shG n f)) n (stN (mbF (shG n f)) n b) (Cn (mbF (shG n f)) n (stN (mbF (shG n f)) n b))) 0 0 (evF n (shG n f) (dnF n (shG n f) (loN n (shG n f)) (b+1) 0)) (rfF n (shG n f) (dnF n (shG n f) (loN n (shG n f)) (b+1) 0)) (wvF n (shG n f) (stN (mbF (shG n f)) n b) (Cn (mbF (shG n f)) n (stN (mbF (shG n f)) n b))))) (JG a n b (kkN n (shG n f)) (shG n f) th lo tt (λ_=>.und) (evF n (shG n f) (dnF n (shG n f) (loN n (shG n f)) b 0)) (rfF n (shG n f) (dnF n (shG n f) (loN n (shG n f)) b 0)) (lnR n (shG n f) b) (coR n (shG n f) b) (ts.map F) 0 (wcN (wrF (shG n f)) n (stN (mbF (shG n f)) n b) (Cn (mbF (shG n f)) n (stN (mbF (shG n f)) n b))) 0 0 (evF n (shG n f) (dnF n (shG n f) (loN n (shG n f)) (b+1) 0)) (rfF n (shG n f) (dnF n (shG n f) (loN n (shG n f)) (b+1) 0)) (wvF n (shG n f) (stN (mbF (shG n f)) n b) (Cn (mbF (shG n f)) n (stN (mbF (shG n f)) n b)))) (C8 KX GT)) ts ts (λi=>nth (Om a n b (kkN n (shG n f)) (shG n f) th lo tt (λ_=>.und) (evF n (shG n f) (dnF n (shG n f) (loN n (shG n f)) b 0)) (rfF n (shG n f) (dnF n (shG n f) (loN n (shG n f)) b 0)) (lnR n (shG n f) b) (coR n (shG n f) b) ts).t i)
  rw [AgV] at h2
  exact h2
 have hkn:kkN n (shG n f) <= n:=AX _ _
 have hw:=AjI (C8 KX GT) (isP (C8 KX GT) 0 (JG a n b (kkN n (shG n f)) (shG n f) th lo tt (λ_=>.und) (evF n (shG n f) (dnF n (shG n f) (loN n (shG n f)) b 0)) (rfF n (shG n f) (dnF n (shG n f) (loN n (shG n f)) b 0)) (lnR n (shG n f) b) (coR n (shG n f) b) (ts.map F) 0 (wcN (wrF (shG n f)) n (stN (mbF (shG n f)) n b) (Cn (mbF (shG n f)) n (stN (mbF (shG n f)) n b))) 0 0 (evF n (shG n f) (dnF n (shG n f) (loN n (shG n f)) (b+1) 0)) (rfF n (shG n f) (dnF n (shG n f) (loN n (shG n f)) (b+1) 0)) (wvF n (shG n f) (stN (mbF (shG n f)) n b) (Cn (mbF (shG n f)) n (stN (mbF (shG n f)) n b))))) a n b (kkN n (shG n f)) (shG n f) th lo tt (λ_=>.und) (evF n (shG n f) (dnF n (shG n f) (loN n (shG n f)) b 0)) (rfF n (shG n f) (dnF n (shG n f) (loN n (shG n f)) b 0)) (lnR n (shG n f) b) (coR n (shG n f) b) ts (ts.map F) 0 (wcN (wrF (shG n f)) n (stN (mbF (shG n f)) n b) (Cn (mbF (shG n f)) n (stN (mbF (shG n f)) n b))) 0 0 (evF n (shG n f) (dnF n (shG n f) (loN n (shG n f)) (b+1) 0)) (rfF n (shG n f) (dnF n (shG n f) (loN n (shG n f)) (b+1) 0)) (wvF n (shG n f) (stN (mbF (shG n f)) n b) (Cn (mbF (shG n f)) n (stN (mbF (shG n f)) n b)))
  (by simp [AT]) (AJ.2 λi _=>AJ.2 λ_ _=>rfl) (decide_eq_true (by omega)) (Ca (by omega)) (Am hp)
 have e:=L7 (τ:=tab) (G:=Gl) (fn:=Try.f59) (CLe.refl (Ap TM)) (Ay (k:=0) hL hL) _ hw
 rw [E0,U4,Zk,Aaa hb,Cs,Cs,Cs,List.map_map,List.map_map,List.map_map] at e
 rw [X1]
 exact SM (st:=⟨ts,hpE a n f th lo tt b⟩) (Γ:=cxZ Gl TM KX GT) e rfl
def slV (w4 w15 w19:V) (u:Nat->V):List V:=(jsV 132 0 u [(4,w4),(15,w15),(19,w19)])
def RF (a:Int) (n:Nat) (f:Nat->E6) (tt:Int) (b kk:Nat) (j:Nat->V):List V:=(jsV 132 0 j [(4,(.ptr 0 0)),(15,(.ptr 4 0)),(19,(nV b)),(122,(nV b)),(123,(.ptr 4 4)),(124,(nV kk)),(125,(bV (ilt (ofNat b) (ofNat kk)))),(128,(.agg [iV a,.ref 1,.ref 5,iV tt,nV kk,.ref 6,.jref 7])),(129,(nV b))])
theorem Aa2 (a:Int) (n:Nat) (f:Nat->E6) (tt:Int) (b kk:Nat) (j:Nat->V):(jsV 132 0 j [(4,(.ptr 0 0)),(15,(.ptr 4 0)),(19,(nV b)),(122,(nV b)),(123,(.ptr 4 4)),(124,(nV kk)),(125,(bV (ilt (ofNat b) (ofNat kk)))),(128,(.agg [(iV a),(.ref 1),(.ref 5),(iV tt),(nV kk),(.ref 6),(.jref 7)])),(129,(nV b))]) = RF a n f tt b kk j:=rfl
theorem XK (a:Int) (n:Nat) (f:Nat->E6) (tt:Int) (b kk:Nat) (j:Nat->V) (F:V->V):(RF a n f tt b kk j).map F = slV (F (.ptr 0 0)) (F (.ptr 4 0)) (F (nV b)) (λi=>F (nth (RF a n f tt b kk j) i)):=by kernel_rfl
theorem Y1 (L:LT) (a:Int) (n:Nat) (f:Nat->E6) (hn:n <= 16) (th lo:Nat->Int) (tt:Int):∀ (e b:Nat) (j:Nat->V) (q:Nat),kkN n (shG n f) = b+e->e < q ->
  (A9 (IK L) (Lx a n f) q (Np a n f b (kkN n (shG n f)) tt th lo (evF n (shG n f) (dnF n (shG n f) (loN n (shG n f)) b 0)) (rfF n (shG n f) (dnF n (shG n f) (loN n (shG n f)) b 0)) (lnR n (shG n f) b) (coR n (shG n f) b) j)).sem = some (HR a n f (kkN n (shG n f)) (kkN n (shG n f)) tt th lo (evF n (shG n f) (dnF n (shG n f) (loN n (shG n f)) (kkN n (shG n f)) 0)) (rfF n (shG n f) (dnF n (shG n f) (loN n (shG n f)) (kkN n (shG n f)) 0)) (lnR n (shG n f) (kkN n (shG n f))) (coR n (shG n f) (kkN n (shG n f))))
 | 0,b,j,q+1,h,_=>by
  have h:kkN n (shG n f) = b:=h
  rw [h]
  rw [show IK L = AF tab ⟨CV,L,Gl⟩ (A1 Try.f15 4) 4 from rfl]
  exact Ad (Aik L a n f b b tt th lo (evF n (shG n f) (dnF n (shG n f) (loN n (shG n f)) b 0)) (rfF n (shG n f) (dnF n (shG n f) (loN n (shG n f)) b 0)) (lnR n (shG n f) b) (coR n (shG n f) b) j (AD (Nat.le_refl _)))
 | e+1,b,j,q+1,h,h2=>by
  have hl:b < kkN n (shG n f):=by omega
  have hkn:kkN n (shG n f) <= n:=AX _ _
  have next:=λj=>Y1 L a n f hn th lo tt e (b+1) j q (by omega) (by omega)
  obtain ⟨F,hF,hc⟩:=AgL a n f hn b th lo tt (RF a n f tt b (kkN n (shG n f)) j) hl
  have hts:(RF a n f tt b (kkN n (shG n f)) j).map F = TT b (λi=>F (nth (RF a n f tt b (kkN n (shG n f)) j) i)):=by
   rw [XK,hF.2 0 0 (by omega),hF.2 4 0 (by omega)]
   unfold nV iV
   rw [hF.1]
   rfl
  rw [hts] at hc
  have hr:=λq59=>Aij Ab6 a n f b (kkN n (shG n f)) tt th lo (evF n (shG n f) (dnF n (shG n f) (loN n (shG n f)) b 0)) (rfF n (shG n f) (dnF n (shG n f) (loN n (shG n f)) b 0)) (lnR n (shG n f) b) (coR n (shG n f) b) (λi=>F (nth (RF a n f tt b (kkN n (shG n f)) j) i)) (evF n (shG n f) (dnF n (shG n f) (loN n (shG n f)) (b+1) 0)) (rfF n (shG n f) (dnF n (shG n f) (loN n (shG n f)) (b+1) 0)) (lnR n (shG n f) (b+1)) (coR n (shG n f) (b+1)) (λ_=>true) (λ_=>.und) (YA a n f tt) q59 j (ofNat_lt hl)
  rw [Aa2 a n f] at hr
  have hr:=hr (isC CV 59 (AgP a n f tt,.all ⟨TT b (λi=>F (nth (RF a n f tt b (kkN n (shG n f)) j) i)),Ajv a n f th lo tt (b+1) ++ YA a n f tt⟩)) (SL hc)
  have hr':=Du (f':=IK L) (l:=Lx a n f) (L8 (τ:=tab) (G:=Gl) (YN (CLe.refl CV)) (VD L) (A1 Try.f15 4) 4 (Np a n f b (kkN n (shG n f)) tt th lo (evF n (shG n f) (dnF n (shG n f) (loN n (shG n f)) b 0)) (rfF n (shG n f) (dnF n (shG n f) (loN n (shG n f)) b 0)) (lnR n (shG n f) b) (coR n (shG n f) b) j)) hr
  rw [Ad hr',Ax,Ao hl (by omega)]
  exact next (λ_=>.und)
theorem U7 {L N:LT} (hL:LLe L L) (hN:LLe N N) (k:Nat) (r:Ex × St):LLe (onP k (isP L k r) r N) (onP k (isP L k r) r N):=λid f f' st hf r' hr=>by
 unfold onP at hr ⊢
 cases hk:Nat.beq id k with
 | true =>
  rw [hk] at hr
  obtain ⟨h1,h2⟩:=Ag hr
  unfold isP at h1
  have h1:=@of_decide_eq_true _ (Classical.propDecidable _) h1
  have h3:isP L k r f' st = true:=Am (hL k f f' st hf _ h1)
  show sel (isP L k r f' st) _ _ = _
  rw [h3]
  exact h2
 | false =>
  rw [hk] at hr
  exact hN id f f' st hf _ hr
def AgS:List (Nat × List (Nat × V)):=[(0,[(5,evV ⟨0,0,0,0,0⟩),(6,iV (-1))]),(4,[(7,iV 0)])]
def AcM (a:Int) (n:Nat) (f:Nat->E6):List (Nat × Lp):=[(0,J5 a n f),(2,Ly a n f),(4,Lx a n f)]
noncomputable def Xt (a:Int) (n:Nat) (f:Nat->E6):Cx:=⟨CV,C8 AgS (AcM a n f),Gl⟩
theorem AgA (a:Int) (n:Nat) (f:Nat->E6):CS (Wi a n f) [(5,evV ⟨0,0,0,0,0⟩),(6,iV (-1))] = JI a n f 0 0 0 (thF n (shG n f)) (loF n (shG n f)) (λ_=>evV ⟨0,0,0,0,0⟩) (λ_=>-1) (λi=>nth (Wi a n f).t i):=by kernel_rfl
theorem Z8 (a:Int) (n:Nat) (f:Nat->E6) (tt:Int) (kk:Nat) (th lo:Nat->Int) (x:Nat->Ev5) (r:Nat->Int):CS (MP a n f tt kk th lo x r) [(7,iV 0)] = Np a n f 0 kk tt th lo x r (λ_=>0) (λ_ _=>0) (λi=>nth (MP a n f tt kk th lo x r).t i):=by kernel_rfl
theorem Ajn (n:Nat) (g:Nat->E6):lnR n g 0 = λ_=>0:=by funext i; simp [lnR]
theorem AjA (n:Nat) (g:Nat->E6):coR n g 0 = λ_ _=>0:=by funext i q; simp [coR]
theorem Adb (n:Nat) (g:Nat->E6):dnF n g (loN n g) 0 0 = λ_=>false:=by
 funext j
 unfold dnF
 rw [ZN]
 simp
theorem XG (n:Nat) (g:Nat->E6):upX n g n = evF n g (dnF n g (loN n g) 0 0):=by
 rw [Adb,Vd,ZO]
def AiQ (n:Nat) (g:Nat->E6):List Blk:=[.row 44 6 n (λi=>eV (g i)),.row 40 5 n (λi=>evV (evF n g (dnF n g (loN n g) (kkN n g) 0) i)),.row 3 1 n (λi=>iV (rfF n g (dnF n g (loN n g) (kkN n g) 0) i)),
 .jag ⟨25,1,kkN n g,λ_=>.und,0,3,1,λ_=>true,lnR n g (kkN n g),λk i=>iV (coR n g (kkN n g) k i)⟩]
theorem Abk {n:Nat} {g:Nat->E6} (hk:0 < kkN n g):AC (AiQ n g) (Qt n g):=by
 have hd:∀ i,i < n->dnF n g (loN n g) (kkN n g) 0 i = true:=λi hi=>by
  unfold dnF
  rw [decide_eq_true hi,To]
  ·rfl
  ·exact PD hi hk
 refine .cons (λ_ _=>rfl) (.cons (λi hi=>?_) (.cons (λi hi=>?_) (.consB (.jag (λ_ _=>.inr rfl) (λ_ _=>rfl) (λk hk'=>?_) (λk hk' q hq=>?_)) (.refl []))))
 ·rw [BK hi,BK hi,hd i hi]
 ·unfold rfF
  rw [hd i hi]
 ·have hk':k < kkN n g:=hk'
  show lnN _ _ n k = lnR n g (kkN n g) k
  unfold lnR
  rw [if_pos hk']
 ·have hk':k < kkN n g:=hk'
  have hq:q < lnR n g (kkN n g) k:=hq
  unfold lnR at hq
  rw [if_pos hk'] at hq
  show iV _ = iV _
  unfold coR
  rw [if_pos ⟨hk',hq⟩]
theorem Aem {a:Int} {n:Nat} {f:Nat->E6} (h8:AN n = true) (hc:ieq (BR a n f) 0 = true) :
  (Az (Ak tab (Xt a n f) Try.f15 [iV a,A4 n f] [])).sem = some (.tup [Qs a n (shG n f),iV 0,iV 0],AiQ n (shG n f)):=by
 have hy:=E7 hc
 have hlo:=hy.lo
 have hhi:=hy.hi
 have hL:=DU AgS (AcM a n f)
 have hg:=Ew hy
 have hko:rN (obF (shG n f)) n n = ttN n (shG n f):=Q4 hg.outer
 have hkm:rN (mbF (shG n f)) n n = kkN n (shG n f):=Q4 hg.moves
 have hkl:kkN n (shG n f) <= n:=AX _ _
 unfold Xt
 have hQ:=U7 hL (U7 hL hL 4 (HR a n f (kkN n (shG n f)) (kkN n (shG n f)) (ofNat (ttN n (shG n f))) (thF n (shG n f)) (loF n (shG n f)) (evF n (shG n f) (dnF n (shG n f) (loN n (shG n f)) (kkN n (shG n f)) 0)) (rfF n (shG n f) (dnF n (shG n f) (loN n (shG n f)) (kkN n (shG n f)) 0)) (lnR n (shG n f) (kkN n (shG n f))) (coR n (shG n f) (kkN n (shG n f))))) 0 (O2 a n f n (ofNat (ttN n (shG n f))) (ofNat (kkN n (shG n f))) (thF n (shG n f)) (loF n (shG n f)) (λi=>evV (upX n (shG n f) n i)) (λ_=>-1))
 refine A7 (Ay (Ay hL hL) hL) _ (Akr _ _ _ a n f (ofNat (ttN n (shG n f))) (kkN n (shG n f)) (thF n (shG n f)) (loF n (shG n f)) (upX n (shG n f) n) (λ_=>-1)
  (evF n (shG n f) (dnF n (shG n f) (loN n (shG n f)) (kkN n (shG n f)) 0)) (rfF n (shG n f) (dnF n (shG n f) (loN n (shG n f)) (kkN n (shG n f)) 0)) (lnR n (shG n f) (kkN n (shG n f))) (coR n (shG n f) (kkN n (shG n f))) h8 hc (Tq.2 ⟨a,hy⟩) hg.may Ce (Am ?_) (Am ?_))
 ·show (A9 _ (J5 a n f) (n+1) (CS _ [(5,evV ⟨0,0,0,0,0⟩),(6,iV (-1))])).sem = _
  rw [AgA]
  have h:=λM hM m2 j=>AcB M hM a n f m2 hhi n 0 j (n+1) (by omega) (by omega)
  rw [Ac3,hko,hkm] at h
  exact h _ hQ (λg st=>rfl) _
 ·show (A9 _ (Lx a n f) 17 (CS _ [(7,iV 0)])).sem = _
  rw [Z8]
  have h:=λL j=>Y1 L a n f hhi (thF n (shG n f)) (loF n (shG n f)) (ofNat (ttN n (shG n f))) (kkN n (shG n f)) 0 j 17 (by omega) (by omega)
  rw [<- XG,Ajn,AjA,show rfF n (shG n f) (dnF n (shG n f) (loN n (shG n f)) 0 0) = λ_=>-1 by rw [Adb]; rfl] at h
  exact h _ _
theorem p15:A6 Try.prog Gl 15 ofT:=by
 refine A5 AO AP Try.func15 (by kernel_rfl) (by kernel_rfl) λvs v h' h=>?_
 unfold ofT at h
 split at h
 ·rename_i a u
  obtain ⟨n,f,ha,h1⟩:=Cj h
  obtain ⟨h8,hq⟩:=Ag h1
  have hA:BJ [iV a,u] [iV a,A4 n f]:=λS w cs hv=>by
   obtain ⟨c,l,rfl,q1,d,l',rfl,q2,q3⟩:=hv
   exact ⟨c,_,rfl,q1,d,l',rfl,ha S w d q2,q3⟩
  have hx:Bj Try.prog (Xt a n f).base ∧ BO (Xt a n f):=⟨X0,S7 rfl⟩
  cases hc:ieq (BR a n f) 0 with
  | true =>
   rw [hc] at hq
   have:=Ac hq
   simp only [Prod.mk.injEq] at this
   obtain ⟨rfl,rfl⟩:=this
   have hg:=Ew (E7 hc)
   have hm:=hg.moves
   exact ⟨_,Xt a n f,_,hA,rfl,hx.1,hx.2,Aem h8 hc,Abk (by show 0 < Aj (λk=>Ar (shG n f k)) n; omega)⟩
  | false =>
   rw [hc] at hq
   have:=Ac hq
   simp only [Prod.mk.injEq] at this
   obtain ⟨rfl,rfl⟩:=this
   exact ⟨_,Xt a n f,_,hA,rfl,hx.1,hx.2,Aks _ a n f h8 hc,AC.refl _⟩
 ·cases h
end Go.Proofs.Ytjhnfomefcngfaa.Sh
