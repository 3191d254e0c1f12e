/-
  Layer 7: the document's shape of a cycle. No conditions.
-/
import Derived.Test.YtjhnfomefcngfaaShE
namespace Go.Proofs.Ytjhnfomefcngfaa.Sh
open Go.Sy Ed
open Int (ofNat)
set_option maxHeartbeats 1000000
set_option maxRecDepth 4000
def Aby:List V->T (V × List Blk):=Hp λn f=>.br (AN n) (.br (BN n f) (.leaf (.tup [.ref 0,iV 0],[.row 3 1 n λk=>iV (Av (λk=>As (f k)) n k)])) .fail) .fail
def Abx:List V->T (V × List Blk):=Hp λn f=>.br (AN n) (.br (BN n f) (.leaf (.tup [.ref 0,iV 0],[.row 3 1 n λk=>iV (Av (λk=>Ar (f k)) n k)])) .fail) .fail
theorem p57:AA Try.prog Gl 57 Aby:=AA.congr Ed.p53 λvs r h=>by
 obtain ⟨v,rfl⟩:∃ v,vs = [v]:=by
  unfold Aby Hp at h
  split at h
  ·exact ⟨_,rfl⟩
  ·cases h
 unfold Aby Hp at h
 unfold Kt Hp
 dsimp only at h ⊢
 unfold apL at h ⊢
 split at h
 ·rename_i n g hg
  obtain ⟨h1,h⟩:=Ag h
  dsimp only at h
  obtain ⟨h2,h⟩:=Ag h
  obtain ⟨h3,h⟩:=Ag h
  rw [h1]
  dsimp only
  rw [h2,h3]
  exact h
 ·cases h
theorem p58:AA Try.prog Gl 58 Abx:=AA.congr Ed.p54 λvs r h=>by
 obtain ⟨v,rfl⟩:∃ v,vs = [v]:=by
  unfold Abx Hp at h
  split at h
  ·exact ⟨_,rfl⟩
  ·cases h
 unfold Abx Hp at h
 unfold Kt Hp
 dsimp only at h ⊢
 unfold apL at h ⊢
 split at h
 ·rename_i n g hg
  obtain ⟨h1,h⟩:=Ag h
  dsimp only at h
  obtain ⟨h2,h⟩:=Ag h
  obtain ⟨h3,h⟩:=Ag h
  rw [h1]
  dsimp only
  rw [h2,h3]
  exact h
 ·cases h
noncomputable def Ah5:List (Nat × (List V->T (V × List Blk))):=[(19,Xp),(56,ZN),(57,Aby),(58,Abx)]
theorem AaN:AC Try.prog Gl Ah5:=.cons p49 <| .cons p56 <| .cons p57 <| .cons p58 .nil
def GU:List (Nat × Lp):=[(0,⟨(bmK 79 0 [1,2,4,5,6,7,8,9]),12,bmK 79 0 [2,4,5],12,17⟩)]
def KZ:List (Nat × List (Nat × V)):=[(0,[(11,iV 0)])]
noncomputable def Da:FuncId->List V->St->T (V × Res):=KQ [(59,KB tab (cxZ Gl TH KZ GU) Try.f59)] (Aq Ah5)
theorem Xr:Bj Try.prog ⟨Da,Gl⟩:=Hm AR (.cons rfl AQ (JX Va KZ GU).1 (JX Va KZ GU).2 Try.func59 (by kernel_rfl) (by kernel_rfl) .nil) (Ep rfl AaN)
theorem AjS (L:LT) (a:Int) (n:Nat) (f:Nat->E6) (h0:AN n = true) (h1:ieq (BS a n f) 0 = false):(A2 (An tab ⟨Da,L,Gl⟩ Try.f15 [iV a,.sl 6 n λi=>eV (f i)] [])).sem = some ((.tup [.agg [iV 0,.ref 0,.ref 1,iV 0,iV 0,.ref 2,.jref 3],iV (BS a n f),iV (LL a n f)]),[.row 44 6 0 (λ_=>.und),.row 40 5 0 (λ_=>.und),r3Z,jgZ]):=Aa [true,true,true] [Ay n (λ_=>true),AN n,Ah (ieq (BS a n f) 0)] (by kernel_rfl) (by simp only [h0,h1,Ax] <;> rfl)
def J7 (a:Int) (n:Nat) (f:Nat->E6):Lp:=⟨(bmK 132 0 [4,5,6,9,10,11,13,15,16]),8,bmK 132 0 [4,5,6,15],8,n+1⟩
def JJ (a:Int) (n:Nat) (f:Nat->E6) (b:Nat) (tt kk:Int) (th lo:Nat->Int) (x:Nat->V) (r:Nat->Int) (j:Nat->V):St:=⟨(jsV 132 0 j [(4,.ptr 0 0),(5,iV 0),(6,iV 0),(9,.ref 1),(10,nV n),(11,.ref 2),(13,.ref 3),(15,.ptr 4 0),(16,nV b)]),[c7Z,.row 44 6 n (λi=>eV (shG n f i)),.row 3 1 n (λk=>iV (th k)),.row 3 1 n (λk=>iV (lo k)),.cells [iV a,.ref 1,.ref 5,iV tt,iV kk,.ref 6,.jref 7],.row 40 5 b x,.row 3 1 b (λi=>iV (r i)),jgZ]⟩
def O1 (a:Int) (n:Nat) (f:Nat->E6) (b:Nat) (tt kk:Int) (th lo:Nat->Int) (x:Nat->V) (r:Nat->Int):Ex × St:=(.ex 0,⟨(jsV 132 0 (λ_=>.und) [(4,.ptr 0 0),(5,iV 0),(6,iV 0),(15,.ptr 4 0)]),[c7Z,.row 44 6 n (λi=>eV (shG n f i)),.row 3 1 n (λk=>iV (th k)),.row 3 1 n (λk=>iV (lo k)),.cells [iV a,.ref 1,.ref 5,iV tt,iV kk,.ref 6,.jref 7],.row 40 5 b x,.row 3 1 b (λi=>iV (r i)),jgZ]⟩)
noncomputable def Fp (L:LT):St->T (Ex × St):=λst=>AG tab ⟨Da,L,Gl⟩ (A1 Try.f15 0) 0 st
theorem Aik (L:LT) (a:Int) (n:Nat) (f:Nat->E6) (b:Nat) (tt kk:Int) (th lo:Nat->Int) (x:Nat->V) (r:Nat->Int)  (j:Nat->V) (h0:ilt (ofNat b) (ofNat n) = false):Aj (Fp L) (J7 a n f) (JJ a n f b tt kk th lo x r j) = some ((.ex 0),⟨(jsV 132 0 (λ_=>.und) [(4,(.ptr 0 0)),(5,(iV 0)),(6,(iV 0)),(15,(.ptr 4 0))]),[c7Z,.row 44 6 n (λi=>eV (shG n f i)),.row 3 1 n (λk=>iV (th k)),.row 3 1 n (λk=>iV (lo k)),.cells [iV a,.ref 1,.ref 5,iV tt,iV kk,.ref 6,.jref 7],.row 40 5 b x,.row 3 1 b (λi=>iV (r i)),jgZ]⟩):=Aa [false] [ilt (ofNat b) (ofNat n)] (by kernel_rfl) (by simp only [h0] <;> rfl)
def VZ (a:Int) (n:Nat) (f:Nat->E6) :St:=⟨(jsV 132 0 (λ_=>A9) [(0,(iV a)),(1,(.sl 6 n (λi=>eV (f i)))),(4,(.ptr 0 0)),(5,(iV 0)),(6,(iV 0)),(7,(iV (BS a n f))),(8,(iV (LL a n f))),(9,(.ref 1)),(10,(nV n)),(11,(.ref 2)),(12,(iV 0)),(13,(.ref 3)),(14,(iV 0)),(15,(.ptr 4 0)),(16,(iV 0)),(20,(.tup [iV (BS a n f),iV (LL a n f)])),(21,(iV a)),(22,(.sl 6 n (λi=>eV (f i)))),(23,(.tup [iV (BS a n f),iV (LL a n f)])),(24,(iV (BS a n f))),(25,(iV (LL a n f))),(26,(iV (BS a n f))),(27,(bV (Ah (ieq (BS a n f) 0)))),(31,(.sl 6 n (λi=>eV (f i)))),(32,(.ref 1)),(33,(.ref 1)),(34,(nV n)),(35,(.tup [.ref 2,iV 0])),(36,(.ref 1)),(37,(.tup [.ref 2,iV 0])),(38,(.ref 2)),(39,(iV 0)),(40,(.tup [.ref 3,iV 0])),(41,(.ref 1)),(42,(.tup [.ref 3,iV 0])),(43,(.ref 3)),(44,(iV 0)),(45,(iV a)),(46,(.ref 1)),(47,(.agg [iV a,.ref 1,.nilS,iV 0,iV 0,.nilS,.nilS]))]),[c7Z,.row 44 6 n (λi=>eV (shG n f i)),.row 3 1 n (λk=>iV (Av (λk=>As (shG n f k)) n k)),.row 3 1 n (λk=>iV (Av (λk=>Ar (shG n f k)) n k)),.cells [iV a,.ref 1,.ref 5,iV 0,iV 0,.ref 6,.jref 7],.row 40 5 0 (λ_=>.und),r3Z,jgZ]⟩
def El (a:Int) (n:Nat) (f:Nat->E6) (b:Nat) (tt kk:Int) (th lo:Nat->Int) (x:Nat->V) (r:Nat->Int) (j:Nat->V):St:=⟨(jsV 132 0 j [(4,(.ptr 0 0)),(5,(iV 0)),(6,(iV 0)),(9,(.ref 1)),(10,(nV n)),(11,(.ref 2)),(13,(.ref 3)),(15,(.ptr 4 0)),(16,(nV b)),(17,(.ptr 8 0)),(18,(iV 0)),(48,(nV b)),(49,(nV n)),(50,(bV (ilt (ofNat b) (ofNat n)))),(53,(.ref 2)),(54,(nV b)),(55,(.ept 2 1 b 0)),(56,(iV (th b))),(57,(.ref 1)),(58,(nV b)),(59,(.ept 1 6 b 0)),(60,(.ept 1 6 b 3)),(61,(iV ((shG n f b)).src)),(62,(.ref 3)),(63,(nV b)),(64,(.ept 3 1 b 0)),(65,(iV (lo b))),(66,(.agg [iV (th b),iV 0,iV ((shG n f b)).src,iV (lo b),iV 0]))]),[c7Z,.row 44 6 n (λi=>eV (shG n f i)),.row 3 1 n (λk=>iV (th k)),.row 3 1 n (λk=>iV (lo k)),.cells [iV a,.ref 1,.ref 5,iV tt,iV kk,.ref 6,.jref 7],.row 40 5 b x,.row 3 1 b (λi=>iV (r i)),jgZ,.cells [iV (th b),iV 0,iV ((shG n f b)).src,iV (lo b),iV 0]]⟩
def L1 (a:Int) (n:Nat) (f:Nat->E6):Lp:=⟨(bmK 132 0 [4,5,6,9,10,11,13,15,16,17,18]),9,bmK 132 0 [4,5,6,9,10,11,13,15,16,17],9,n+1⟩
def Np (a:Int) (n:Nat) (f:Nat->E6) (b:Nat) (tt kk:Int) (th lo:Nat->Int) (x:Nat->V) (r:Nat->Int) (p:Int) (c:Nat) (j:Nat->V):St:=⟨(jsV 132 0 j [(4,.ptr 0 0),(5,iV 0),(6,iV 0),(9,.ref 1),(10,nV n),(11,.ref 2),(13,.ref 3),(15,.ptr 4 0),(16,nV b),(17,.ptr 8 0),(18,nV c)]),[c7Z,.row 44 6 n (λi=>eV (shG n f i)),.row 3 1 n (λk=>iV (th k)),.row 3 1 n (λk=>iV (lo k)),.cells [iV a,.ref 1,.ref 5,iV tt,iV kk,.ref 6,.jref 7],.row 40 5 b x,.row 3 1 b (λi=>iV (r i)),jgZ,.cells [iV (th b),iV p,iV ((shG n f b)).src,iV (lo b),iV 0]]⟩
def De (a:Int) (n:Nat) (f:Nat->E6) (b:Nat) (tt kk:Int) (th lo:Nat->Int) (x:Nat->V) (r:Nat->Int) (p:Int) (c:Nat):Ex × St:=(.ex 2,⟨(jsV 132 0 (λ_=>.und) [(4,.ptr 0 0),(5,iV 0),(6,iV 0),(9,.ref 1),(10,nV n),(11,.ref 2),(13,.ref 3),(15,.ptr 4 0),(16,nV b),(17,.ptr 8 0)]),[c7Z,.row 44 6 n (λi=>eV (shG n f i)),.row 3 1 n (λk=>iV (th k)),.row 3 1 n (λk=>iV (lo k)),.cells [iV a,.ref 1,.ref 5,iV tt,iV kk,.ref 6,.jref 7],.row 40 5 b x,.row 3 1 b (λi=>iV (r i)),jgZ,.cells [iV (th b),iV p,iV ((shG n f b)).src,iV (lo b),iV 0]]⟩)
noncomputable def CG (L:LT):St->T (Ex × St):=λst=>AG tab ⟨Da,L,Gl⟩ (A1 Try.f15 2) 2 st
section
variable (L:LT) (a:Int) (n:Nat) (f:Nat->E6) (b:Nat) (tt kk:Int) (th lo:Nat->Int) (x:Nat->V) (r:Nat->Int) (p:Int) (c:Nat)  (j:Nat->V)
include L a n f b tt kk th lo x r p c j
theorem Aie (h0:ilt (ofNat c) (ofNat b) = false):Aj (CG L) (L1 a n f) (Np a n f b tt kk th lo x r p c j) = some ((.ex 2),⟨(jsV 132 0 (λ_=>.und) [(4,(.ptr 0 0)),(5,(iV 0)),(6,(iV 0)),(9,(.ref 1)),(10,(nV n)),(11,(.ref 2)),(13,(.ref 3)),(15,(.ptr 4 0)),(16,(nV b)),(17,(.ptr 8 0))]),[c7Z,.row 44 6 n (λi=>eV (shG n f i)),.row 3 1 n (λk=>iV (th k)),.row 3 1 n (λk=>iV (lo k)),.cells [iV a,.ref 1,.ref 5,iV tt,iV kk,.ref 6,.jref 7],.row 40 5 b x,.row 3 1 b (λi=>iV (r i)),jgZ,.cells [iV (th b),iV p,iV ((shG n f b)).src,iV (lo b),iV 0]]⟩):=Aa [false] [ilt (ofNat c) (ofNat b)] (by kernel_rfl) (by simp only [h0] <;> rfl)
theorem Aid (h0:ilt (ofNat c) (ofNat b) = true) (h19:Af (ile 0 (ofNat c)) (ilt (ofNat c) (ofNat n)) = true) (h1:nlt c n = true) (h21:Af (ile 0 (ofNat b)) (ilt (ofNat b) (ofNat n)) = true) (h2:nlt b n = true) (h3:ieq (th c) (th b) = false):Aj (CG L) (L1 a n f) (Np a n f b tt kk th lo x r p c j) = some (.nm,⟨(jsV 132 0 (λ_=>.und) [(4,(.ptr 0 0)),(5,(iV 0)),(6,(iV 0)),(9,(.ref 1)),(10,(nV n)),(11,(.ref 2)),(13,(.ref 3)),(15,(.ptr 4 0)),(16,(nV b)),(17,(.ptr 8 0)),(18,(iV (wr .i64 (Ae (ofNat c) 1))))]),[c7Z,.row 44 6 n (λi=>eV (shG n f i)),.row 3 1 n (λk=>iV (th k)),.row 3 1 n (λk=>iV (lo k)),.cells [iV a,.ref 1,.ref 5,iV tt,iV kk,.ref 6,.jref 7],.row 40 5 b x,.row 3 1 b (λi=>iV (r i)),jgZ,.cells [iV (th b),iV p,iV ((shG n f b)).src,iV (lo b),iV 0]]⟩):=Aa (bbK 6 31) [ilt (ofNat c) (ofNat b),Af (ile 0 (ofNat c)) (ilt (ofNat c) (ofNat n)),nlt c n,Af (ile 0 (ofNat b)) (ilt (ofNat b) (ofNat n)),nlt b n,ieq (th c) (th b)] (by kernel_rfl) (by simp only [h19,h21] <;> simp only [*] <;> rfl)
theorem Aic (h0:ilt (ofNat c) (ofNat b) = true) (h19:Af (ile 0 (ofNat c)) (ilt (ofNat c) (ofNat n)) = true) (h1:nlt c n = true) (h21:Af (ile 0 (ofNat b)) (ilt (ofNat b) (ofNat n)) = true) (h2:nlt b n = true) (h3:ieq (th c) (th b) = true):Aj (CG L) (L1 a n f) (Np a n f b tt kk th lo x r p c j) = some (.nm,⟨(jsV 132 0 (λ_=>.und) [(4,(.ptr 0 0)),(5,(iV 0)),(6,(iV 0)),(9,(.ref 1)),(10,(nV n)),(11,(.ref 2)),(13,(.ref 3)),(15,(.ptr 4 0)),(16,(nV b)),(17,(.ptr 8 0)),(18,(iV (wr .i64 (Ae (ofNat c) 1))))]),[c7Z,.row 44 6 n (λi=>eV (shG n f i)),.row 3 1 n (λk=>iV (th k)),.row 3 1 n (λk=>iV (lo k)),.cells [iV a,.ref 1,.ref 5,iV tt,iV kk,.ref 6,.jref 7],.row 40 5 b x,.row 3 1 b (λi=>iV (r i)),jgZ,.cells [iV (th b),iV (wr .i64 (Ae p 1)),iV ((shG n f b)).src,iV (lo b),iV 0]]⟩):=Aa (bbK 6 63) [ilt (ofNat c) (ofNat b),Af (ile 0 (ofNat c)) (ilt (ofNat c) (ofNat n)),nlt c n,Af (ile 0 (ofNat b)) (ilt (ofNat b) (ofNat n)),nlt b n,ieq (th c) (th b)] (by kernel_rfl) (by simp only [h19,h21] <;> simp only [*] <;> rfl)
end
section
variable (L:LT) (p2:PT) (a:Int) (n:Nat) (f:Nat->E6) (b:Nat) (tt kk:Int) (th lo:Nat->Int) (x:Nat->V) (r:Nat->Int) (p:Int) (j:Nat->V)
include L p2 a n f b tt kk th lo x r p j
theorem AeQ (h0:ilt (ofNat b) (ofNat n) = true) (h17:ile 0 (ofNat b) = true) (h18:nlt b n = true) (h19:Bh b 1 40 = true) (h20:Bh b 1 8 = true) (h1:ile tt (th b) = true) (h2:ile kk (lo b) = true) (hp2:p2 (CG (onP 2 p2 (De a n f b tt kk th lo x r p b) L)) (El a n f b tt kk th lo x r j) = true):Aj (Fp (onP 2 p2 (De a n f b tt kk th lo x r p b) L)) (J7 a n f) (JJ a n f b tt kk th lo x r j) = some (.nm,⟨(jsV 132 0 (λ_=>.und) [(4,(.ptr 0 0)),(5,(iV 0)),(6,(iV 0)),(9,(.ref 1)),(10,(nV n)),(11,(.ref 2)),(13,(.ref 3)),(15,(.ptr 4 0)),(16,(iV (wr .i64 (Ae (ofNat b) 1))))]),[c7Z,.row 44 6 n (λi=>eV (shG n f i)),.row 3 1 n (λk=>iV (th k)),.row 3 1 n (λk=>iV (lo k)),.cells [iV a,.ref 1,.ref 5,iV (wr .i64 (Ae (th b) 1)),iV (wr .i64 (Ae (lo b) 1)),.ref 6,.jref 7],.row 40 5 (Bp b 1) (AB b x (.agg [iV (th b),iV p,iV ((shG n f b)).src,iV (lo b),iV 0])),.row 3 1 (Bp b 1) (AB b (λi=>iV (r i)) (iV (-1))),jgZ]⟩):=Aa (bbK 62 4611686018427387903) ((λc0 c1 c2 c3 c4 c5 c6 c7=>[ilt (ofNat b) (ofNat n),c0,c1,c0,c1,c0,c1,c2,c0,c3,c1,c4,c2,c0,c3,c3,c1,c5,c2,c0,c3,c1,c6,c4,c7,c5,c6,c7,c2,c0,c3,c1,c4,c2,c0,c3,c3,c1,c5,c2,c0,c3,c1,c6,c4,c7,c5,c6,c7,p2 (CG (onP 2 p2 (De a n f b tt kk th lo x r p b) L)) (El a n f b tt kk th lo x r j),Bh b 1 40,Bh b 1 8,c0,c1,ile tt (th b),c0,c1,c0,c1,ile kk (lo b),c0,c1]) (Af (ile 0 (ofNat b)) (ilt (ofNat b) (ofNat n))) (nlt b n) (ieq (ofNat b) (ofNat b)) (A4 b b) (ieq (th b) (th b)) (ieq ((shG n f b)).src ((shG n f b)).src) (ieq (lo b) (lo b)) (ieq 0 0)) (by kernel_rfl) (by simp only [hp2] <;> simp only [*,B7,Bg] <;> rfl)
theorem AeR (h0:ilt (ofNat b) (ofNat n) = true) (h17:ile 0 (ofNat b) = true) (h18:nlt b n = true) (h19:Bh b 1 40 = true) (h20:Bh b 1 8 = true) (h1:ile tt (th b) = true) (h2:ile kk (lo b) = false) (hp2:p2 (CG (onP 2 p2 (De a n f b tt kk th lo x r p b) L)) (El a n f b tt kk th lo x r j) = true):Aj (Fp (onP 2 p2 (De a n f b tt kk th lo x r p b) L)) (J7 a n f) (JJ a n f b tt kk th lo x r j) = some (.nm,⟨(jsV 132 0 (λ_=>.und) [(4,(.ptr 0 0)),(5,(iV 0)),(6,(iV 0)),(9,(.ref 1)),(10,(nV n)),(11,(.ref 2)),(13,(.ref 3)),(15,(.ptr 4 0)),(16,(iV (wr .i64 (Ae (ofNat b) 1))))]),[c7Z,.row 44 6 n (λi=>eV (shG n f i)),.row 3 1 n (λk=>iV (th k)),.row 3 1 n (λk=>iV (lo k)),.cells [iV a,.ref 1,.ref 5,iV (wr .i64 (Ae (th b) 1)),iV kk,.ref 6,.jref 7],.row 40 5 (Bp b 1) (AB b x (.agg [iV (th b),iV p,iV ((shG n f b)).src,iV (lo b),iV 0])),.row 3 1 (Bp b 1) (AB b (λi=>iV (r i)) (iV (-1))),jgZ]⟩):=Aa (bbK 60 576460752303423487) ((λc0 c1 c2 c3 c4 c5 c6 c7=>[ilt (ofNat b) (ofNat n),c0,c1,c0,c1,c0,c1,c2,c0,c3,c1,c4,c2,c0,c3,c3,c1,c5,c2,c0,c3,c1,c6,c4,c7,c5,c6,c7,c2,c0,c3,c1,c4,c2,c0,c3,c3,c1,c5,c2,c0,c3,c1,c6,c4,c7,c5,c6,c7,p2 (CG (onP 2 p2 (De a n f b tt kk th lo x r p b) L)) (El a n f b tt kk th lo x r j),Bh b 1 40,Bh b 1 8,c0,c1,ile tt (th b),c0,c1,c0,c1,ile kk (lo b)]) (Af (ile 0 (ofNat b)) (ilt (ofNat b) (ofNat n))) (nlt b n) (ieq (ofNat b) (ofNat b)) (A4 b b) (ieq (th b) (th b)) (ieq ((shG n f b)).src ((shG n f b)).src) (ieq (lo b) (lo b)) (ieq 0 0)) (by kernel_rfl) (by simp only [hp2] <;> simp only [*,B7,Bg] <;> rfl)
theorem AeS (h0:ilt (ofNat b) (ofNat n) = true) (h17:ile 0 (ofNat b) = true) (h18:nlt b n = true) (h19:Bh b 1 40 = true) (h20:Bh b 1 8 = true) (h1:ile tt (th b) = false) (h2:ile kk (lo b) = true) (hp2:p2 (CG (onP 2 p2 (De a n f b tt kk th lo x r p b) L)) (El a n f b tt kk th lo x r j) = true):Aj (Fp (onP 2 p2 (De a n f b tt kk th lo x r p b) L)) (J7 a n f) (JJ a n f b tt kk th lo x r j) = some (.nm,⟨(jsV 132 0 (λ_=>.und) [(4,(.ptr 0 0)),(5,(iV 0)),(6,(iV 0)),(9,(.ref 1)),(10,(nV n)),(11,(.ref 2)),(13,(.ref 3)),(15,(.ptr 4 0)),(16,(iV (wr .i64 (Ae (ofNat b) 1))))]),[c7Z,.row 44 6 n (λi=>eV (shG n f i)),.row 3 1 n (λk=>iV (th k)),.row 3 1 n (λk=>iV (lo k)),.cells [iV a,.ref 1,.ref 5,iV tt,iV (wr .i64 (Ae (lo b) 1)),.ref 6,.jref 7],.row 40 5 (Bp b 1) (AB b x (.agg [iV (th b),iV p,iV ((shG n f b)).src,iV (lo b),iV 0])),.row 3 1 (Bp b 1) (AB b (λi=>iV (r i)) (iV (-1))),jgZ]⟩):=Aa (bbK 60 1134907106097364991) ((λc0 c1 c2 c3 c4 c5 c6 c7=>[ilt (ofNat b) (ofNat n),c0,c1,c0,c1,c0,c1,c2,c0,c3,c1,c4,c2,c0,c3,c3,c1,c5,c2,c0,c3,c1,c6,c4,c7,c5,c6,c7,c2,c0,c3,c1,c4,c2,c0,c3,c3,c1,c5,c2,c0,c3,c1,c6,c4,c7,c5,c6,c7,p2 (CG (onP 2 p2 (De a n f b tt kk th lo x r p b) L)) (El a n f b tt kk th lo x r j),Bh b 1 40,Bh b 1 8,c0,c1,ile tt (th b),c0,c1,ile kk (lo b),c0,c1]) (Af (ile 0 (ofNat b)) (ilt (ofNat b) (ofNat n))) (nlt b n) (ieq (ofNat b) (ofNat b)) (A4 b b) (ieq (th b) (th b)) (ieq ((shG n f b)).src ((shG n f b)).src) (ieq (lo b) (lo b)) (ieq 0 0)) (by kernel_rfl) (by simp only [hp2] <;> simp only [*,B7,Bg] <;> rfl)
theorem AeT (h0:ilt (ofNat b) (ofNat n) = true) (h17:ile 0 (ofNat b) = true) (h18:nlt b n = true) (h19:Bh b 1 40 = true) (h20:Bh b 1 8 = true) (h1:ile tt (th b) = false) (h2:ile kk (lo b) = false) (hp2:p2 (CG (onP 2 p2 (De a n f b tt kk th lo x r p b) L)) (El a n f b tt kk th lo x r j) = true):Aj (Fp (onP 2 p2 (De a n f b tt kk th lo x r p b) L)) (J7 a n f) (JJ a n f b tt kk th lo x r j) = some (.nm,⟨(jsV 132 0 (λ_=>.und) [(4,(.ptr 0 0)),(5,(iV 0)),(6,(iV 0)),(9,(.ref 1)),(10,(nV n)),(11,(.ref 2)),(13,(.ref 3)),(15,(.ptr 4 0)),(16,(iV (wr .i64 (Ae (ofNat b) 1))))]),[c7Z,.row 44 6 n (λi=>eV (shG n f i)),.row 3 1 n (λk=>iV (th k)),.row 3 1 n (λk=>iV (lo k)),.cells [iV a,.ref 1,.ref 5,iV tt,iV kk,.ref 6,.jref 7],.row 40 5 (Bp b 1) (AB b x (.agg [iV (th b),iV p,iV ((shG n f b)).src,iV (lo b),iV 0])),.row 3 1 (Bp b 1) (AB b (λi=>iV (r i)) (iV (-1))),jgZ]⟩):=Aa (bbK 58 126100789566373887) ((λc0 c1 c2 c3 c4 c5 c6 c7=>[ilt (ofNat b) (ofNat n),c0,c1,c0,c1,c0,c1,c2,c0,c3,c1,c4,c2,c0,c3,c3,c1,c5,c2,c0,c3,c1,c6,c4,c7,c5,c6,c7,c2,c0,c3,c1,c4,c2,c0,c3,c3,c1,c5,c2,c0,c3,c1,c6,c4,c7,c5,c6,c7,p2 (CG (onP 2 p2 (De a n f b tt kk th lo x r p b) L)) (El a n f b tt kk th lo x r j),Bh b 1 40,Bh b 1 8,c0,c1,ile tt (th b),c0,c1,ile kk (lo b)]) (Af (ile 0 (ofNat b)) (ilt (ofNat b) (ofNat n))) (nlt b n) (ieq (ofNat b) (ofNat b)) (A4 b b) (ieq (th b) (th b)) (ieq ((shG n f b)).src ((shG n f b)).src) (ieq (lo b) (lo b)) (ieq 0 0)) (by kernel_rfl) (by simp only [hp2] <;> simp only [*,B7,Bg] <;> rfl)
end
def L0 (a:Int) (n:Nat) (f:Nat->E6):Lp:=⟨(bmK 132 0 [4,15,19]),8,bmK 132 0 [4,15],8,17⟩
def Nn (a:Int) (n:Nat) (f:Nat->E6) (b kk:Nat) (tt:Int) (th lo:Nat->Int) (x:Nat->Ev5) (r:Nat->Int) (ln:Nat->Nat) (co:Nat->Nat->Int) (j:Nat->V):St:=⟨(jsV 132 0 j [(4,.ptr 0 0),(15,.ptr 4 0),(19,nV b)]),[c7Z,.row 44 6 n (λi=>eV (shG n f i)),.row 3 1 n (λi=>iV (th i)),.row 3 1 n (λi=>iV (lo i)),.cells [iV a,.ref 1,.ref 5,iV tt,nV kk,.ref 6,.jref 7],.row 40 5 n (λi=>evV (x i)),.row 3 1 n (λi=>iV (r i)),.jag (Jag.mk 25 1 b (λ_=>.und) 0 3 1 (λ_=>true) ln (λi q=>iV (co i q)))]⟩
def HR (a:Int) (n:Nat) (f:Nat->E6) (b kk:Nat) (tt:Int) (th lo:Nat->Int) (x:Nat->Ev5) (r:Nat->Int) (ln:Nat->Nat) (co:Nat->Nat->Int):Ex × St:=(.ex 4,⟨(jsV 132 0 (λ_=>.und) [(4,.ptr 0 0),(15,.ptr 4 0)]),[c7Z,.row 44 6 n (λi=>eV (shG n f i)),.row 3 1 n (λi=>iV (th i)),.row 3 1 n (λi=>iV (lo i)),.cells [iV a,.ref 1,.ref 5,iV tt,nV kk,.ref 6,.jref 7],.row 40 5 n (λi=>evV (x i)),.row 3 1 n (λi=>iV (r i)),.jag (Jag.mk 25 1 b (λ_=>.und) 0 3 1 (λ_=>true) ln (λi q=>iV (co i q)))]⟩)
def TO (b:Nat) (u:Nat->V):List V:=(jsV 132 0 u [(4,.ptr 0 0),(15,.ptr 4 0),(19,nV b)])
noncomputable def IL (L:LT):St->T (Ex × St):=λst=>AG tab ⟨Da,L,Gl⟩ (A1 Try.f15 4) 4 st
theorem AhS (L:LT) (a:Int) (n:Nat) (f:Nat->E6) (b kk:Nat) (tt:Int) (th lo:Nat->Int) (x:Nat->Ev5) (r:Nat->Int) (ln:Nat->Nat) (co:Nat->Nat->Int)  (j:Nat->V) (h0:ilt (ofNat b) (ofNat kk) = false):(((AG tab ⟨Da,L,Gl⟩ (A1 Try.f15 4) 4 (Nn a n f b kk tt th lo x r ln co j)).bind λrr=>T.leaf (IH (L0 a n f) rr))).sem = some ((.ex 4),⟨(jsV 132 0 (λ_=>.und) [(4,(.ptr 0 0)),(15,(.ptr 4 0))]),[c7Z,.row 44 6 n (λi=>eV (shG n f i)),.row 3 1 n (λi=>iV (th i)),.row 3 1 n (λi=>iV (lo i)),.cells [iV a,.ref 1,.ref 5,iV tt,nV kk,.ref 6,.jref 7],.row 40 5 n (λi=>.agg [iV ((x i)).th,iV ((x i)).pl,iV ((x i)).dir,iV ((x i)).loc,iV ((x i)).val]),.row 3 1 n (λi=>iV (r i)),.jag (Jag.mk 25 1 b (λ_=>.und) 0 3 1 (λ_=>true) ln (λi q=>iV (co i q)))]⟩):=Aa [false] [ilt (ofNat b) (ofNat kk)] (by kernel_rfl) (by simp only [h0] <;> rfl)
theorem AhR (L:LT) (a:Int) (n:Nat) (f:Nat->E6) (b kk:Nat) (tt:Int) (th lo:Nat->Int) (x:Nat->Ev5) (r:Nat->Int) (ln:Nat->Nat) (co:Nat->Nat->Int) (u:Nat->V) (x':Nat->Ev5) (r':Nat->Int) (ln':Nat->Nat) (co':Nat->Nat->Int) (lv':Nat->Bool) (c':Nat->V) (d:List Blk) (q59:List V->St->Bool) (j:Nat->V) (h0:ilt (ofNat b) (ofNat kk) = true) (hq59:(q59 [.agg [iV a,.ref 1,.ref 5,iV tt,nV kk,.ref 6,.jref 7],nV b] ⟨(jsV 132 0 j [(4,(.ptr 0 0)),(15,(.ptr 4 0)),(19,(nV b)),(122,(nV b)),(123,(.ptr 4 4)),(124,(nV kk)),(125,(bV (ilt (ofNat b) (ofNat kk)))),(128,(.agg [iV a,.ref 1,.ref 5,iV tt,nV kk,.ref 6,.jref 7])),(129,(nV b))]),[c7Z,.row 44 6 n (λi=>eV (shG n f i)),.row 3 1 n (λi=>iV (th i)),.row 3 1 n (λi=>iV (lo i)),.cells [iV a,.ref 1,.ref 5,iV tt,nV kk,.ref 6,.jref 7],.row 40 5 n (λi=>.agg [iV ((x i)).th,iV ((x i)).pl,iV ((x i)).dir,iV ((x i)).loc,iV ((x i)).val]),.row 3 1 n (λi=>iV (r i)),.jag (Jag.mk 25 1 b (λ_=>.und) 0 3 1 (λ_=>true) ln (λi q=>iV (co i q)))]⟩) = true):(((AG tab ⟨(onC 59 q59 ((.agg [iV a,.ref 1,.ref 5,iV tt,nV kk,.ref 6,.jref 7]),.all ⟨TO b u,[c7Z,.row 44 6 n (λi=>eV (shG n f i)),.row 3 1 n (λi=>iV (th i)),.row 3 1 n (λi=>iV (lo i)),.cells [iV a,.ref 1,.ref 5,iV tt,nV kk,.ref 6,.und],.row 40 5 n (λi=>evV (x' i)),.row 3 1 n (λi=>iV (r' i)),.jag (Jag.mk 25 1 (Bp b 1) c' 0 3 1 lv' ln' (λi q=>iV (co' i q)))] ++ d⟩) (Da)),L,Gl⟩ (A1 Try.f15 4) 4 (Nn a n f b kk tt th lo x r ln co j)).bind λrr=>T.leaf (IH (L0 a n f) rr))).sem = some (.nm,⟨(jsV 132 0 (λ_=>.und) [(4,(.ptr 0 0)),(15,(.ptr 4 0)),(19,(iV (wr .i64 (Ae (ofNat b) 1))))]),[c7Z,.row 44 6 n (λi=>eV (shG n f i)),.row 3 1 n (λi=>iV (th i)),.row 3 1 n (λi=>iV (lo i)),.cells [iV a,.ref 1,.ref 5,iV tt,nV kk,.ref 6,.jref 7],.row 40 5 n (λi=>.agg [iV ((x' i)).th,iV ((x' i)).pl,iV ((x' i)).dir,iV ((x' i)).loc,iV ((x' i)).val]),.row 3 1 n (λi=>iV (r' i)),.jag (Jag.mk 25 1 (Bp b 1) c' 0 3 1 lv' ln' (λi q=>iV (co' i q)))]⟩):=Aa [true,true] [ilt (ofNat b) (ofNat kk),q59 [.agg [iV a,.ref 1,.ref 5,iV tt,nV kk,.ref 6,.jref 7],nV b] ⟨(jsV 132 0 j [(4,(.ptr 0 0)),(15,(.ptr 4 0)),(19,(nV b)),(122,(nV b)),(123,(.ptr 4 4)),(124,(nV kk)),(125,(bV (ilt (ofNat b) (ofNat kk)))),(128,(.agg [iV a,.ref 1,.ref 5,iV tt,nV kk,.ref 6,.jref 7])),(129,(nV b))]),[c7Z,.row 44 6 n (λi=>eV (shG n f i)),.row 3 1 n (λi=>iV (th i)),.row 3 1 n (λi=>iV (lo i)),.cells [iV a,.ref 1,.ref 5,iV tt,nV kk,.ref 6,.jref 7],.row 40 5 n (λi=>.agg [iV ((x i)).th,iV ((x i)).pl,iV ((x i)).dir,iV ((x i)).loc,iV ((x i)).val]),.row 3 1 n (λi=>iV (r i)),.jag (Jag.mk 25 1 b (λ_=>.und) 0 3 1 (λ_=>true) ln (λi q=>iV (co i q)))]⟩] (by kernel_rfl) (by simp only [hq59] <;> simp only [h0] <;> rfl)
def MP (a:Int) (n:Nat) (f:Nat->E6) (tt:Int) (kk:Nat) (th lo:Nat->Int) (x:Nat->Ev5) (r:Nat->Int):St:=⟨(jsV 132 0 (λ_=>.und) [(4,(.ptr 0 0)),(5,(iV 0)),(6,(iV 0)),(15,(.ptr 4 0)),(19,(iV 0))]),[c7Z,.row 44 6 n (λi=>eV (shG n f i)),.row 3 1 n (λk=>iV (th k)),.row 3 1 n (λk=>iV (lo k)),.cells [iV a,.ref 1,.ref 5,iV tt,nV kk,.ref 6,.jref 7],.row 40 5 n (λi=>.agg [iV ((x i)).th,iV ((x i)).pl,iV ((x i)).dir,iV ((x i)).loc,iV ((x i)).val]),.row 3 1 n (λi=>iV (r i)),jgZ]⟩
theorem AjR (L:LT) (p0:PT) (p4:PT) (a:Int) (n:Nat) (f:Nat->E6) (tt:Int) (kk:Nat) (th lo:Nat->Int) (x:Nat->Ev5) (r:Nat->Int) (x':Nat->Ev5) (r':Nat->Int) (ln':Nat->Nat) (co':Nat->Nat->Int) (h16:AN n = true) (h0:ieq (BS a n f) 0 = true) (h1:ZL n f = true) (h17:BN n (λi=>shG n f i) = true) (h18:Bm [.row 3 1 n (λ_=>iV 0)] = true) (hp0:p0 (Fp (onP 0 p0 (O1 a n f n tt (ofNat kk) th lo (λi=>evV (x i)) r) (onP 4 p4 (HR a n f kk kk tt th lo x' r' ln' co') L))) (VZ a n f) = true) (hp4:p4 (IL (onP 0 p0 (O1 a n f n tt (ofNat kk) th lo (λi=>evV (x i)) r) (onP 4 p4 (HR a n f kk kk tt th lo x' r' ln' co') L))) (MP a n f tt kk th lo x r) = true):(A2 (An tab ⟨Da,onP 0 p0 (O1 a n f n tt (ofNat kk) th lo (λi=>evV (x i)) r) (onP 4 p4 (HR a n f kk kk tt th lo x' r' ln' co') L),Gl⟩ Try.f15 [iV a,.sl 6 n λi=>eV (f i)] [])).sem = some ((.tup [.agg [iV a,.ref 0,.ref 1,iV tt,nV kk,.ref 2,.jref 3],iV 0,iV 0]),[.row 44 6 n (λi=>eV (shG n f i)),.row 40 5 n (λi=>.agg [iV ((x' i)).th,iV ((x' i)).pl,iV ((x' i)).dir,iV ((x' i)).loc,iV ((x' i)).val]),.row 3 1 n (λi=>iV (r' i)),.jag (Jag.mk 25 1 kk (λ_=>.und) 0 3 1 (λ_=>true) ln' (λi q=>iV (co' i q)))]):=Aa (bbK 16 65531) ((λc0 c1 c2 c3=>[c0,c1,Ah (ieq (BS a n f) 0),c0,c1,ZL n f,c0,c1,c2,c3,c0,c1,c2,c3,p0 (Fp (onP 0 p0 (O1 a n f n tt (ofNat kk) th lo (λi=>evV (x i)) r) (onP 4 p4 (HR a n f kk kk tt th lo x' r' ln' co') L))) (VZ a n f),p4 (IL (onP 0 p0 (O1 a n f n tt (ofNat kk) th lo (λi=>evV (x i)) r) (onP 4 p4 (HR a n f kk kk tt th lo x' r' ln' co') L))) (MP a n f tt kk th lo x r)]) (Ay n (λ_=>true)) (AN n) (BN n (λi=>shG n f i)) (Bm [.row 3 1 n (λ_=>iV 0)])) (by kernel_rfl) (by simp only [hp0,hp4] <;> simp only [*,Ax,Cg] <;> rfl)
theorem ile_nat (a b:Nat):ile (ofNat a) (ofNat b) = decide (a <= b):=by
 unfold ile
 rw [Bool.eq_iff_iff]
 simp
theorem SN (a b:Int):ieq a b = ieq b a:=by
 unfold ieq
 rw [Bool.eq_iff_iff]
 simp only [beq_iff_eq]
 exact eq_comm
theorem Ub (L:LT) (a:Int) (n:Nat) (f:Nat->E6) (b:Nat) (tt kk:Int) (th lo:Nat->Int) (x:Nat->V) (r:Nat->Int) (hb:b < n) (hn:n <= 16):∀ (e c:Nat) (j:Nat->V) (q:Nat),b = c+e->e < q ->
  (A8 (CG L) (L1 a n f) q (Np a n f b tt kk th lo x r (ofNat (Ak (λk=>ieq (th k) (th b)) c)) c j)).sem = some (De a n f b tt kk th lo x r (ofNat (Ak (λk=>ieq (th k) (th b)) b)) b)
 | 0,c,j,q+1,h,_=>by
  have:b = c:=by omega
  subst this
  exact Ad (Aie L a n f b tt kk th lo x r _ b j (AF (Nat.le_refl _)))
 | e+1,c,j,q+1,h,h2=>by
  have hl:c < b:=by omega
  have hc:=Bd (λk=>ieq (th k) (th b)) c
  cases hp:ieq (th c) (th b) with
  | true =>
   rw [Ad (Aic L a n f b tt kk th lo x r _ c j (ofNat_lt hl) (Ap (by omega)) (decide_eq_true (by omega)) (Ap hb) (decide_eq_true hb) hp),Aw,Ao hl (by omega),Ao (n:=n) (by omega) (by omega),<- Bk (p:=λk=>ieq (th k) (th b)) hp]
   exact Ub L a n f b tt kk th lo x r hb hn e (c+1) (λ_=>.und) q (by omega) (by omega)
  | false =>
   rw [Ad (Aid L a n f b tt kk th lo x r _ c j (ofNat_lt hl) (Ap (by omega)) (decide_eq_true (by omega)) (Ap hb) (decide_eq_true hb) hp),Aw,Ao hl (by omega),<- B0 (p:=λk=>ieq (th k) (th b)) hp]
   exact Ub L a n f b tt kk th lo x r hb hn e (c+1) (λ_=>.und) q (by omega) (by omega)
theorem UA (a:Int) (n:Nat) (f:Nat->E6) (b:Nat) (tt kk:Int) (th lo:Nat->Int) (x:Nat->V) (r:Nat->Int) (j:Nat->V):El a n f b tt kk th lo x r j = Np a n f b tt kk th lo x r 0 0 (λi=>nth (El a n f b tt kk th lo x r j).t i):=by kernel_rfl
theorem Ajg {p:Nat->Bool} {n b:Nat} (hb:b < n) (hn:n <= 16):(ile (ofNat (rN p n b)) (Av p n b) = true ∧ wr .i64 (Ae (Av p n b) 1) = ofNat (rN p n (b+1))) ∨ (ile (ofNat (rN p n b)) (Av p n b) = false ∧ rN p n b = rN p n (b+1)):=by
 have h1:=Ku p n b hb
 have h2:=Sc p n b
 rw [Fz hb,Ao (n:=n) (by omega) (by omega),ile_nat,rN]
 by_cases h:Ba p n b < rN p n b
 ·rw [if_pos h]
  exact .inr ⟨decide_eq_false (by omega),rfl⟩
 ·rw [if_neg h]
  exact .inl ⟨decide_eq_true (by omega),by rw [show Ba p n b = rN p n b by omega]⟩
theorem Ac7 (M:LT) (hMM:LLe M M) (a:Int) (n:Nat) (f:Nat->E6) (m2:∀ g st,M 2 g st = A8 g (L1 a n f) (n+1) st) (hn:n <= 16):∀ (e b:Nat) (j:Nat->V) (q:Nat),n = b+e->e < q ->
  (A8 (Fp M) (J7 a n f) q (JJ a n f b (ofNat (rN (obF (shG n f)) n b)) (ofNat (rN (mbF (shG n f)) n b)) (thF n (shG n f)) (loF n (shG n f)) (λi=>evV (upX n (shG n f) b i)) (λ_=>-1) j)).sem = some (O1 a n f n (ofNat (rN (obF (shG n f)) n n)) (ofNat (rN (mbF (shG n f)) n n)) (thF n (shG n f)) (loF n (shG n f)) (λi=>evV (upX n (shG n f) n i)) (λ_=>-1))
 | 0,b,j,q+1,h,_=>by
  have:n = b:=by omega
  subst this
  exact Ad (Aik M a n f n _ _ _ _ _ _ j (AF (Nat.le_refl _)))
 | e+1,b,j,q+1,h,h2=>by
  have hl:b < n:=by omega
  have hi:∀ M',(M 2 (CG M') (El a n f b (ofNat (rN (obF (shG n f)) n b)) (ofNat (rN (mbF (shG n f)) n b)) (thF n (shG n f)) (loF n (shG n f)) (λi=>evV (upX n (shG n f) b i)) (λ_=>-1) j)).sem = some (De a n f b (ofNat (rN (obF (shG n f)) n b)) (ofNat (rN (mbF (shG n f)) n b)) (thF n (shG n f)) (loF n (shG n f)) (λi=>evV (upX n (shG n f) b i)) (λ_=>-1) (ofNat (Ak (λk=>ieq (thF n (shG n f) k) (thF n (shG n f) b)) b)) b):=λM'=>by
   rw [m2,UA]
   exact Ub M' a n f b (ofNat (rN (obF (shG n f)) n b)) (ofNat (rN (mbF (shG n f)) n b)) (thF n (shG n f)) (loF n (shG n f)) (λi=>evV (upX n (shG n f) b i)) (λ_=>-1) hl hn b 0 _ (n+1) (by omega) (by omega)
  have hx:=RA n (shG n f) b
  rw [show evV (evF n (shG n f) (λ_=>false) b) = .agg [iV (thF n (shG n f) b),iV (ofNat (Ak (λk=>ieq (thF n (shG n f) k) (thF n (shG n f) b)) b)),iV (shG n f b).src,iV (loF n (shG n f) b),iV 0] by
   rw [BU hl,show Ak (λk=>ieq (thF n (shG n f) k) (thF n (shG n f) b)) b = plF n (shG n f) b from EB λi _=>SN _ _]; rfl] at hx
  have next:=Ac7 M hMM a n f m2 hn e (b+1) (λ_=>.und) q (by omega) (by omega)
  rcases Ajg (p:=obF (shG n f)) hl hn with ⟨c1,w1⟩ | ⟨c1,w1⟩ <;> rcases Ajg (p:=mbF (shG n f)) hl hn with ⟨c2,w2⟩ | ⟨c2,w2⟩
  ·have w1:wr .i64 (Ae (thF n (shG n f) b) 1) = _:=w1
   have w2:wr .i64 (Ae (loF n (shG n f) b) 1) = _:=w2
   have h3:=AeQ M _ a n f b (ofNat (rN (obF (shG n f)) n b)) (ofNat (rN (mbF (shG n f)) n b)) (thF n (shG n f)) (loF n (shG n f)) (λi=>evV (upX n (shG n f) b i)) (λ_=>-1) (ofNat (Ak (λk=>ieq (thF n (shG n f) k) (thF n (shG n f) b)) b)) j (ofNat_lt hl) (AK b) (decide_eq_true hl) (Cc (by omega)) (Cc (by omega)) c1 c2 (Am (hi _))
   have h4:Aj (Fp M) (J7 a n f) (JJ a n f b (ofNat (rN (obF (shG n f)) n b)) (ofNat (rN (mbF (shG n f)) n b)) (thF n (shG n f)) (loF n (shG n f)) (λi=>evV (upX n (shG n f) b i)) (λ_=>-1) j) = _:=Dy (l:=J7 a n f) (EU (Γ:=⟨Da,M,Gl⟩) (Az hMM hMM) (A1 Try.f15 0) 0 (JJ a n f b (ofNat (rN (obF (shG n f)) n b)) (ofNat (rN (mbF (shG n f)) n b)) (thF n (shG n f)) (loF n (shG n f)) (λi=>evV (upX n (shG n f) b i)) (λ_=>-1) j)) h3
   rw [Ad h4,Aw,Ao hl (by omega),hx,E2]
   rw [w1,w2]
   exact next
  ·have w1:wr .i64 (Ae (thF n (shG n f) b) 1) = _:=w1
   have h3:=AeR M _ a n f b (ofNat (rN (obF (shG n f)) n b)) (ofNat (rN (mbF (shG n f)) n b)) (thF n (shG n f)) (loF n (shG n f)) (λi=>evV (upX n (shG n f) b i)) (λ_=>-1) (ofNat (Ak (λk=>ieq (thF n (shG n f) k) (thF n (shG n f) b)) b)) j (ofNat_lt hl) (AK b) (decide_eq_true hl) (Cc (by omega)) (Cc (by omega)) c1 c2 (Am (hi _))
   have h4:Aj (Fp M) (J7 a n f) (JJ a n f b (ofNat (rN (obF (shG n f)) n b)) (ofNat (rN (mbF (shG n f)) n b)) (thF n (shG n f)) (loF n (shG n f)) (λi=>evV (upX n (shG n f) b i)) (λ_=>-1) j) = _:=Dy (l:=J7 a n f) (EU (Γ:=⟨Da,M,Gl⟩) (Az hMM hMM) (A1 Try.f15 0) 0 (JJ a n f b (ofNat (rN (obF (shG n f)) n b)) (ofNat (rN (mbF (shG n f)) n b)) (thF n (shG n f)) (loF n (shG n f)) (λi=>evV (upX n (shG n f) b i)) (λ_=>-1) j)) h3
   rw [Ad h4,Aw,Ao hl (by omega),hx,E2]
   rw [w1,w2]
   exact next
  ·have w2:wr .i64 (Ae (loF n (shG n f) b) 1) = _:=w2
   have h3:=AeS M _ a n f b (ofNat (rN (obF (shG n f)) n b)) (ofNat (rN (mbF (shG n f)) n b)) (thF n (shG n f)) (loF n (shG n f)) (λi=>evV (upX n (shG n f) b i)) (λ_=>-1) (ofNat (Ak (λk=>ieq (thF n (shG n f) k) (thF n (shG n f) b)) b)) j (ofNat_lt hl) (AK b) (decide_eq_true hl) (Cc (by omega)) (Cc (by omega)) c1 c2 (Am (hi _))
   have h4:Aj (Fp M) (J7 a n f) (JJ a n f b (ofNat (rN (obF (shG n f)) n b)) (ofNat (rN (mbF (shG n f)) n b)) (thF n (shG n f)) (loF n (shG n f)) (λi=>evV (upX n (shG n f) b i)) (λ_=>-1) j) = _:=Dy (l:=J7 a n f) (EU (Γ:=⟨Da,M,Gl⟩) (Az hMM hMM) (A1 Try.f15 0) 0 (JJ a n f b (ofNat (rN (obF (shG n f)) n b)) (ofNat (rN (mbF (shG n f)) n b)) (thF n (shG n f)) (loF n (shG n f)) (λi=>evV (upX n (shG n f) b i)) (λ_=>-1) j)) h3
   rw [Ad h4,Aw,Ao hl (by omega),hx,E2]
   rw [w1,w2]
   exact next
  ·have h3:=AeT M _ a n f b (ofNat (rN (obF (shG n f)) n b)) (ofNat (rN (mbF (shG n f)) n b)) (thF n (shG n f)) (loF n (shG n f)) (λi=>evV (upX n (shG n f) b i)) (λ_=>-1) (ofNat (Ak (λk=>ieq (thF n (shG n f) k) (thF n (shG n f) b)) b)) j (ofNat_lt hl) (AK b) (decide_eq_true hl) (Cc (by omega)) (Cc (by omega)) c1 c2 (Am (hi _))
   have h4:Aj (Fp M) (J7 a n f) (JJ a n f b (ofNat (rN (obF (shG n f)) n b)) (ofNat (rN (mbF (shG n f)) n b)) (thF n (shG n f)) (loF n (shG n f)) (λi=>evV (upX n (shG n f) b i)) (λ_=>-1) j) = _:=Dy (l:=J7 a n f) (EU (Γ:=⟨Da,M,Gl⟩) (Az hMM hMM) (A1 Try.f15 0) 0 (JJ a n f b (ofNat (rN (obF (shG n f)) n b)) (ofNat (rN (mbF (shG n f)) n b)) (thF n (shG n f)) (loF n (shG n f)) (λi=>evV (upX n (shG n f) b i)) (λ_=>-1) j)) h3
   rw [Ad h4,Aw,Ao hl (by omega),hx,E2]
   rw [w1,w2]
   exact next
def lnR (n:Nat) (g:Nat->E6) (b k:Nat):Nat:=if k < b then lnN (mbF g) (wrF g) n k else 0
def coR (n:Nat) (g:Nat->E6) (b k q:Nat):Int:=if k < b ∧ q < lnN (mbF g) (wrF g) n k then ofNat (coN (mbF g) (wrF g) n k q) else 0
theorem Zf (n:Nat) (g:Nat->E6) (b:Nat):(λi=>sel (A4 i b) (wcN (wrF g) n (stN (mbF g) n b) (Cp (mbF g) n (stN (mbF g) n b))) (lnR n g b i)) = lnR n g (b+1):=by
 funext i
 unfold lnR
 by_cases hi:i = b
 ·subst hi
  rw [show A4 i i = true from Nat.beq_refl _,if_pos (Nat.lt_succ_self _)]
  rfl
 ·rw [show A4 i b = false from nbeq_ne hi]
  by_cases h:i < b
  ·rw [if_pos h,if_pos (by omega)]; rfl
  ·rw [if_neg h,if_neg (by omega)]; rfl
theorem ZV {n:Nat} {g:Nat->E6} {b:Nat} (hb:b < kkN n g):(λi i_1=>Co (λi_2 i_3=>iV (coR n g b i_2 i_3)) b (λi_2=>iV (wvF n g (stN (mbF g) n b) (Cp (mbF g) n (stN (mbF g) n b)) i_2)) i i_1) = λi q=>iV (coR n g (b+1) i q):=by
 funext i q
 unfold Co
 rw [Fu]
 have hlo:loN n g (stN (mbF g) n b) = b:=(GM hb).2.2.1
 unfold coR wvF
 rw [hlo]
 by_cases hi:i = b
 ·subst hi
  rw [show A4 i i = true from Nat.beq_refl _]
  show iV _ = iV _
  by_cases hq:q < wcN (wrF g) n (stN (mbF g) n i) (Cp (mbF g) n (stN (mbF g) n i))
  ·rw [if_pos hq,if_pos ⟨Nat.lt_succ_self _,hq⟩]
  ·rw [if_neg hq,if_neg (λh=>hq h.2)]
 ·rw [show A4 i b = false from nbeq_ne hi]
  show iV _ = iV _
  by_cases h:i < b ∧ q < lnN (mbF g) (wrF g) n i
  ·rw [if_pos h,if_pos ⟨by omega,h.2⟩]
  ·rw [if_neg h,if_neg (λh'=>h ⟨by omega,h'.2⟩)]
def hpE (a:Int) (n:Nat) (f:Nat->E6) (th lo:Nat->Int) (tt:Int) (b:Nat):List Blk:=[c7Z,.row 44 6 n (λi=>eV (shG n f i)),.row 3 1 n (λi=>iV (th i)),.row 3 1 n (λi=>iV (lo i)),.cells [iV a,.ref 1,.ref 5,iV tt,iV (ofNat (kkN n (shG n f))),.ref 6,.jref 7],.row 40 5 n (λi=>evV (evF n (shG n f) (dnF n (shG n f) (loN n (shG n f)) b 0) i)),.row 3 1 n (λi=>iV (rfF n (shG n f) (dnF n (shG n f) (loN n (shG n f)) b 0) i)),.jag (Jag.mk 25 1 b (λ_=>.und) 0 3 1 (λ_=>true) (lnR n (shG n f) b) (λi q=>iV (coR n (shG n f) b i q)))]
def Aje (a:Int) (n:Nat) (f:Nat->E6) (th lo:Nat->Int) (tt:Int) (b:Nat):List Blk:=[c7Z,.row 44 6 n (λi=>eV (shG n f i)),.row 3 1 n (λi=>iV (th i)),.row 3 1 n (λi=>iV (lo i)),.cells [iV a,.ref 1,.ref 5,iV tt,iV (ofNat (kkN n (shG n f))),.ref 6,.und],.row 40 5 n (λi=>evV (evF n (shG n f) (dnF n (shG n f) (loN n (shG n f)) b 0) i)),.row 3 1 n (λi=>iV (rfF n (shG n f) (dnF n (shG n f) (loN n (shG n f)) b 0) i)),.jag (Jag.mk 25 1 b (λ_=>.und) 0 3 1 (λ_=>true) (lnR n (shG n f) b) (λi q=>iV (coR n (shG n f) b i q)))]
def AgA (a:Int) (n:Nat) (f:Nat->E6) (tt:Int):V:=.agg [iV a,.ref 1,.ref 5,iV tt,iV (ofNat (kkN n (shG n f))),.ref 6,.jref 7]
def Y9 (a:Int) (n:Nat) (f:Nat->E6) (tt:Int):List Blk:=[.dead,.cells [iV a,.ref 1,.ref 5,iV tt,iV (ofNat (kkN n (shG n f))),.ref 6,.jref 7],.cells [iV a,.ref 1,.ref 5,iV tt,iV (ofNat (kkN n (shG n f))),.ref 6,.jref 7],.dead,.dead]
theorem Xs (vs:List V) (st:St):Da 59 vs st = KB tab (cxZ Gl TH KZ GU) Try.f59 vs st:=by kernel_rfl
theorem Ux (q:Nat):(λi=>sel (A4 i q) true true) = λ_=>true:=by
 funext i
 cases A4 i q <;> rfl
theorem ZD (a:Int) (n k kk:Nat) (g:Nat->E6) (th lo:Nat->Int) (tt:Int) (c0:Nat->V) (x0:Nat->Ev5) (r0:Nat->Int) (ln:Nat->Nat) (co:Nat->Nat->Int) (ts:List V):CW (Ol a n k kk g th lo tt c0 x0 r0 ln co ts) [(11,iV 0)] = W1 a n k kk g th lo tt c0 x0 r0 ln co ts 0 0 (GC n g x0 (ofNat k)) (-1) x0 r0 (λ_=>0) (λi=>nth (Ol a n k kk g th lo tt c0 x0 r0 ln co ts).t i):=by kernel_rfl
theorem AgF (n:Nat) (g:Nat->E6) (z:Nat):wvF n g z 0 = λ_=>0:=by
 funext q
 unfold wvF
 rw [show wcN (wrF g) n z 0 = 0 from rfl,if_neg (Nat.not_lt_zero _)]
theorem Ag6 (a:Int) (n:Nat) (f:Nat->E6) (hn:n <= 16) (b:Nat) (th lo:Nat->Int) (tt:Int) (ts:List V) (hb:b < kkN n (shG n f)):∃ F,Fa F ∧
  (Da 59 [AgA a n f tt,nV b] ⟨ts,hpE a n f th lo tt b⟩).sem = some (AgA a n f tt,.all ⟨ts.map F,Aje a n f th lo tt (b+1) ++ Y9 a n f tt⟩):=by
 obtain ⟨hz,hst,hlo,_⟩:=GM hb
 have hlo:loN n (shG n f) (stN (mbF (shG n f)) n b) = b:=hlo
 have hL:=DW KZ GU
 have hrun:=AhG a n (stN (mbF (shG n f)) n b) (shG n f) th lo tt (λ_=>.und) (evF n (shG n f) (dnF n (shG n f) (loN n (shG n f)) b 0)) (rfF n (shG n f) (dnF n (shG n f) (loN n (shG n f)) b 0)) (lnR n (shG n f) b) (coR n (shG n f) b) hz hst hn (Cp (mbF (shG n f)) n (stN (mbF (shG n f)) n b)) 0 17 (Nat.zero_add _).symm (by have:=(ER hz hst).2.1; omega)
 rw [hlo] at hrun
 obtain ⟨F,hF,h1⟩:=hrun
 refine ⟨_,(((hF.comp (EK 11)).comp (EK 12)).comp (EK 7)),?_⟩
 have hp:(CC KZ GU 0 (IJ (onP 0 (isP (CC KZ GU) 0 (JH a n b (kkN n (shG n f)) (shG n f) th lo tt (λ_=>.und) (evF n (shG n f) (dnF n (shG n f) (loN n (shG n f)) b 0)) (rfF n (shG n f) (dnF n (shG n f) (loN n (shG n f)) b 0)) (lnR n (shG n f) b) (coR n (shG n f) b) (ts.map F) 0 (wcN (wrF (shG n f)) n (stN (mbF (shG n f)) n b) (Cp (mbF (shG n f)) n (stN (mbF (shG n f)) n b))) 0 0 (evF n (shG n f) (dnF n (shG n f) (loN n (shG n f)) (b+1) 0)) (rfF n (shG n f) (dnF n (shG n f) (loN n (shG n f)) (b+1) 0)) (wvF n (shG n f) (stN (mbF (shG n f)) n b) (Cp (mbF (shG n f)) n (stN (mbF (shG n f)) n b))))) (JH a n b (kkN n (shG n f)) (shG n f) th lo tt (λ_=>.und) (evF n (shG n f) (dnF n (shG n f) (loN n (shG n f)) b 0)) (rfF n (shG n f) (dnF n (shG n f) (loN n (shG n f)) b 0)) (lnR n (shG n f) b) (coR n (shG n f) b) (ts.map F) 0 (wcN (wrF (shG n f)) n (stN (mbF (shG n f)) n b) (Cp (mbF (shG n f)) n (stN (mbF (shG n f)) n b))) 0 0 (evF n (shG n f) (dnF n (shG n f) (loN n (shG n f)) (b+1) 0)) (rfF n (shG n f) (dnF n (shG n f) (loN n (shG n f)) (b+1) 0)) (wvF n (shG n f) (stN (mbF (shG n f)) n b) (Cp (mbF (shG n f)) n (stN (mbF (shG n f)) n b)))) (CC KZ GU))) (Ol a n b (kkN n (shG n f)) (shG n f) th lo tt (λ_=>.und) (evF n (shG n f) (dnF n (shG n f) (loN n (shG n f)) b 0)) (rfF n (shG n f) (dnF n (shG n f) (loN n (shG n f)) b 0)) (lnR n (shG n f) b) (coR n (shG n f) b) ts)).sem = some (JH a n b (kkN n (shG n f)) (shG n f) th lo tt (λ_=>.und) (evF n (shG n f) (dnF n (shG n f) (loN n (shG n f)) b 0)) (rfF n (shG n f) (dnF n (shG n f) (loN n (shG n f)) b 0)) (lnR n (shG n f) b) (coR n (shG n f) b) (ts.map F) 0 (wcN (wrF (shG n f)) n (stN (mbF (shG n f)) n b) (Cp (mbF (shG n f)) n (stN (mbF (shG n f)) n b))) 0 0 (evF n (shG n f) (dnF n (shG n f) (loN n (shG n f)) (b+1) 0)) (rfF n (shG n f) (dnF n (shG n f) (loN n (shG n f)) (b+1) 0)) (wvF n (shG n f) (stN (mbF (shG n f)) n b) (Cp (mbF (shG n f)) n (stN (mbF (shG n f)) n b)))):=by
  show (A8 _ _ 17 (CW (Ol a n b (kkN n (shG n f)) (shG n f) th lo tt (λ_=>.und) (evF n (shG n f) (dnF n (shG n f) (loN n (shG n f)) b 0)) (rfF n (shG n f) (dnF n (shG n f) (loN n (shG n f)) b 0)) (lnR n (shG n f) b) (coR n (shG n f) b) ts) [(11,iV 0)])).sem = _
  rw [ZD,Xc hb]
  have h2:=h1 (onP 0 (isP (CC KZ GU) 0 (JH a n b (kkN n (shG n f)) (shG n f) th lo tt (λ_=>.und) (evF n (shG n f) (dnF n (shG n f) (loN n (shG n f)) b 0)) (rfF n (shG n f) (dnF n (shG n f) (loN n (shG n f)) b 0)) (lnR n (shG n f) b) (coR n (shG n f) b) (ts.map F) 0 (wcN (wrF (shG n f)) n (stN (mbF (shG n f)) n b) (Cp (mbF (shG n f)) n (stN (mbF (shG n f)) n b))) 0 0 (evF n (shG n f) (dnF n (shG n f) (loN n (shG n f)) (b+1) 0)) (rfF n (shG n f) (dnF n (shG n f) (loN n (shG n f)) (b+1) 0)) (wvF n (shG n f) (stN (mbF (shG n f)) n b) (Cp (mbF (shG n f)) n (stN (mbF (shG n f)) n b))))) (JH a n b (kkN n (shG n f)) (shG n f) th lo tt (λ_=>.und) (evF n (shG n f) (dnF n (shG n f) (loN n (shG n f)) b 0)) (rfF n (shG n f) (dnF n (shG n f) (loN n (shG n f)) b 0)) (lnR n (shG n f) b) (coR n (shG n f) b) (ts.map F) 0 (wcN (wrF (shG n f)) n (stN (mbF (shG n f)) n b) (Cp (mbF (shG n f)) n (stN (mbF (shG n f)) n b))) 0 0 (evF n (shG n f) (dnF n (shG n f) (loN n (shG n f)) (b+1) 0)) (rfF n (shG n f) (dnF n (shG n f) (loN n (shG n f)) (b+1) 0)) (wvF n (shG n f) (stN (mbF (shG n f)) n b) (Cp (mbF (shG n f)) n (stN (mbF (shG n f)) n b)))) (CC KZ GU)) ts ts (λi=>nth (Ol a n b (kkN n (shG n f)) (shG n f) th lo tt (λ_=>.und) (evF n (shG n f) (dnF n (shG n f) (loN n (shG n f)) b 0)) (rfF n (shG n f) (dnF n (shG n f) (loN n (shG n f)) b 0)) (lnR n (shG n f) b) (coR n (shG n f) b) ts).t i)
  rw [AgF] at h2
  exact h2
 have hkn:kkN n (shG n f) <= n:=Bd _ _
 have hw:=Aj1 (CC KZ GU) (isP (CC KZ GU) 0 (JH a n b (kkN n (shG n f)) (shG n f) th lo tt (λ_=>.und) (evF n (shG n f) (dnF n (shG n f) (loN n (shG n f)) b 0)) (rfF n (shG n f) (dnF n (shG n f) (loN n (shG n f)) b 0)) (lnR n (shG n f) b) (coR n (shG n f) b) (ts.map F) 0 (wcN (wrF (shG n f)) n (stN (mbF (shG n f)) n b) (Cp (mbF (shG n f)) n (stN (mbF (shG n f)) n b))) 0 0 (evF n (shG n f) (dnF n (shG n f) (loN n (shG n f)) (b+1) 0)) (rfF n (shG n f) (dnF n (shG n f) (loN n (shG n f)) (b+1) 0)) (wvF n (shG n f) (stN (mbF (shG n f)) n b) (Cp (mbF (shG n f)) n (stN (mbF (shG n f)) n b))))) a n b (kkN n (shG n f)) (shG n f) th lo tt (λ_=>.und) (evF n (shG n f) (dnF n (shG n f) (loN n (shG n f)) b 0)) (rfF n (shG n f) (dnF n (shG n f) (loN n (shG n f)) b 0)) (lnR n (shG n f) b) (coR n (shG n f) b) ts (ts.map F) 0 (wcN (wrF (shG n f)) n (stN (mbF (shG n f)) n b) (Cp (mbF (shG n f)) n (stN (mbF (shG n f)) n b))) 0 0 (evF n (shG n f) (dnF n (shG n f) (loN n (shG n f)) (b+1) 0)) (rfF n (shG n f) (dnF n (shG n f) (loN n (shG n f)) (b+1) 0)) (wvF n (shG n f) (stN (mbF (shG n f)) n b) (Cp (mbF (shG n f)) n (stN (mbF (shG n f)) n b)))
  (by simp [Be]) (AJ.2 λi _=>AJ.2 λ_ _=>rfl) (decide_eq_true (by omega)) (Cc (by omega)) (Am hp)
 have e:=LC (τ:=tab) (G:=Gl) (fn:=Try.f59) (CLe.refl (Aq TH)) (Az (k:=0) hL hL) _ hw
 rw [E2,Ux,Zf,ZV hb,Cv,Cv,Cv,List.map_map,List.map_map,List.map_map] at e
 rw [Xs]
 exact SI (st:=⟨ts,hpE a n f th lo tt b⟩) (Γ:=cxZ Gl TH KZ GU) e rfl
def slV (w4 w15 w19:V) (u:Nat->V):List V:=(jsV 132 0 u [(4,w4),(15,w15),(19,w19)])
def RB (a:Int) (n:Nat) (f:Nat->E6) (tt:Int) (b kk:Nat) (j:Nat->V):List V:=(jsV 132 0 j [(4,(.ptr 0 0)),(15,(.ptr 4 0)),(19,(nV b)),(122,(nV b)),(123,(.ptr 4 4)),(124,(nV kk)),(125,(bV (ilt (ofNat b) (ofNat kk)))),(128,(.agg [iV a,.ref 1,.ref 5,iV tt,nV kk,.ref 6,.jref 7])),(129,(nV b))])
theorem Aax (a:Int) (n:Nat) (f:Nat->E6) (tt:Int) (b kk:Nat) (j:Nat->V):(jsV 132 0 j [(4,(.ptr 0 0)),(15,(.ptr 4 0)),(19,(nV b)),(122,(nV b)),(123,(.ptr 4 4)),(124,(nV kk)),(125,(bV (ilt (ofNat b) (ofNat kk)))),(128,(.agg [(iV a),(.ref 1),(.ref 5),(iV tt),(nV kk),(.ref 6),(.jref 7)])),(129,(nV b))]) = RB a n f tt b kk j:=rfl
theorem XC (a:Int) (n:Nat) (f:Nat->E6) (tt:Int) (b kk:Nat) (j:Nat->V) (F:V->V):(RB a n f tt b kk j).map F = slV (F (.ptr 0 0)) (F (.ptr 4 0)) (F (nV b)) (λi=>F (nth (RB a n f tt b kk j) i)):=by kernel_rfl
theorem Y0 (L:LT) (a:Int) (n:Nat) (f:Nat->E6) (hn:n <= 16) (th lo:Nat->Int) (tt:Int):∀ (e b:Nat) (j:Nat->V) (q:Nat),kkN n (shG n f) = b+e->e < q ->
  (A8 (IL L) (L0 a n f) q (Nn a n f b (kkN n (shG n f)) tt th lo (evF n (shG n f) (dnF n (shG n f) (loN n (shG n f)) b 0)) (rfF n (shG n f) (dnF n (shG n f) (loN n (shG n f)) b 0)) (lnR n (shG n f) b) (coR n (shG n f) b) j)).sem = some (HR a n f (kkN n (shG n f)) (kkN n (shG n f)) tt th lo (evF n (shG n f) (dnF n (shG n f) (loN n (shG n f)) (kkN n (shG n f)) 0)) (rfF n (shG n f) (dnF n (shG n f) (loN n (shG n f)) (kkN n (shG n f)) 0)) (lnR n (shG n f) (kkN n (shG n f))) (coR n (shG n f) (kkN n (shG n f))))
 | 0,b,j,q+1,h,_=>by
  have h:kkN n (shG n f) = b:=h
  rw [h]
  rw [show IL L = AG tab ⟨Da,L,Gl⟩ (A1 Try.f15 4) 4 from rfl]
  exact Ad (AhS L a n f b b tt th lo (evF n (shG n f) (dnF n (shG n f) (loN n (shG n f)) b 0)) (rfF n (shG n f) (dnF n (shG n f) (loN n (shG n f)) b 0)) (lnR n (shG n f) b) (coR n (shG n f) b) j (AF (Nat.le_refl _)))
 | e+1,b,j,q+1,h,h2=>by
  have hl:b < kkN n (shG n f):=by omega
  have hkn:kkN n (shG n f) <= n:=Bd _ _
  have next:=λj=>Y0 L a n f hn th lo tt e (b+1) j q (by omega) (by omega)
  obtain ⟨F,hF,hc⟩:=Ag6 a n f hn b th lo tt (RB a n f tt b (kkN n (shG n f)) j) hl
  have hts:(RB a n f tt b (kkN n (shG n f)) j).map F = TO b (λi=>F (nth (RB a n f tt b (kkN n (shG n f)) j) i)):=by
   rw [XC,hF.2 0 0 (by omega),hF.2 4 0 (by omega)]
   unfold nV iV
   rw [hF.1]
   rfl
  rw [hts] at hc
  have hr:=λq59=>AhR Ab1 a n f b (kkN n (shG n f)) tt th lo (evF n (shG n f) (dnF n (shG n f) (loN n (shG n f)) b 0)) (rfF n (shG n f) (dnF n (shG n f) (loN n (shG n f)) b 0)) (lnR n (shG n f) b) (coR n (shG n f) b) (λi=>F (nth (RB a n f tt b (kkN n (shG n f)) j) i)) (evF n (shG n f) (dnF n (shG n f) (loN n (shG n f)) (b+1) 0)) (rfF n (shG n f) (dnF n (shG n f) (loN n (shG n f)) (b+1) 0)) (lnR n (shG n f) (b+1)) (coR n (shG n f) (b+1)) (λ_=>true) (λ_=>.und) (Y9 a n f tt) q59 j (ofNat_lt hl)
  rw [Aax a n f] at hr
  have hr:=hr (isC Da 59 (AgA a n f tt,.all ⟨TO b (λi=>F (nth (RB a n f tt b (kkN n (shG n f)) j) i)),Aje a n f th lo tt (b+1) ++ Y9 a n f tt⟩)) (SH hc)
  have hr':=Dy (f':=IL L) (l:=L0 a n f) (LD (τ:=tab) (G:=Gl) (YM (CLe.refl Da)) (V4 L) (A1 Try.f15 4) 4 (Nn a n f b (kkN n (shG n f)) tt th lo (evF n (shG n f) (dnF n (shG n f) (loN n (shG n f)) b 0)) (rfF n (shG n f) (dnF n (shG n f) (loN n (shG n f)) b 0)) (lnR n (shG n f) b) (coR n (shG n f) b) j)) hr
  rw [Ad hr',Aw,Ao hl (by omega)]
  exact next (λ_=>.und)
theorem U0 {L N:LT} (hL:LLe L L) (hN:LLe N N) (k:Nat) (r:Ex × St):LLe (onP k (isP L k r) r N) (onP k (isP L k r) r N):=λid f f' st hf r' hr=>by
 unfold onP at hr ⊢
 cases hk:Nat.beq id k with
 | true =>
  rw [hk] at hr
  obtain ⟨h1,h2⟩:=Ag hr
  unfold isP at h1
  have h1:=@of_decide_eq_true _ (Classical.propDecidable _) h1
  have h3:isP L k r f' st = true:=Am (hL k f f' st hf _ h1)
  show sel (isP L k r f' st) _ _ = _
  rw [h3]
  exact h2
 | false =>
  rw [hk] at hr
  exact hN id f f' st hf _ hr
def AgD:List (Nat × List (Nat × V)):=[(0,[(5,evV ⟨0,0,0,0,0⟩),(6,iV (-1))]),(4,[(7,iV 0)])]
def AcI (a:Int) (n:Nat) (f:Nat->E6):List (Nat × Lp):=[(0,J7 a n f),(2,L1 a n f),(4,L0 a n f)]
noncomputable def Xk (a:Int) (n:Nat) (f:Nat->E6):Cx:=⟨Da,CC AgD (AcI a n f),Gl⟩
theorem Agv (a:Int) (n:Nat) (f:Nat->E6):CW (VZ a n f) [(5,evV ⟨0,0,0,0,0⟩),(6,iV (-1))] = JJ a n f 0 0 0 (thF n (shG n f)) (loF n (shG n f)) (λ_=>evV ⟨0,0,0,0,0⟩) (λ_=>-1) (λi=>nth (VZ a n f).t i):=by kernel_rfl
theorem Z4 (a:Int) (n:Nat) (f:Nat->E6) (tt:Int) (kk:Nat) (th lo:Nat->Int) (x:Nat->Ev5) (r:Nat->Int):CW (MP a n f tt kk th lo x r) [(7,iV 0)] = Nn a n f 0 kk tt th lo x r (λ_=>0) (λ_ _=>0) (λi=>nth (MP a n f tt kk th lo x r).t i):=by kernel_rfl
theorem AiW (n:Nat) (g:Nat->E6):lnR n g 0 = λ_=>0:=by funext i; simp [lnR]
theorem Ajt (n:Nat) (g:Nat->E6):coR n g 0 = λ_ _=>0:=by funext i q; simp [coR]
theorem AcW (n:Nat) (g:Nat->E6):dnF n g (loN n g) 0 0 = λ_=>false:=by
 funext j
 unfold dnF
 rw [ZI]
 simp
theorem X8 (n:Nat) (g:Nat->E6):upX n g n = evF n g (dnF n g (loN n g) 0 0):=by
 rw [AcW,UW,ZJ]
def Ai8 (n:Nat) (g:Nat->E6):List Blk:=[.row 44 6 n (λi=>eV (g i)),.row 40 5 n (λi=>evV (evF n g (dnF n g (loN n g) (kkN n g) 0) i)),.row 3 1 n (λi=>iV (rfF n g (dnF n g (loN n g) (kkN n g) 0) i)),
 .jag ⟨25,1,kkN n g,λ_=>.und,0,3,1,λ_=>true,lnR n g (kkN n g),λk i=>iV (coR n g (kkN n g) k i)⟩]
theorem Abg {n:Nat} {g:Nat->E6} (hk:0 < kkN n g):AE (Ai8 n g) (Qo n g):=by
 have hd:∀ i,i < n->dnF n g (loN n g) (kkN n g) 0 i = true:=λi hi=>by
  unfold dnF
  rw [decide_eq_true hi,Tk]
  ·rfl
  ·exact S4 hi hk
 refine .cons (λ_ _=>rfl) (.cons (λi hi=>?_) (.cons (λi hi=>?_) (.consB (.jag (λ_ _=>.inr rfl) (λ_ _=>rfl) (λk hk'=>?_) (λk hk' q hq=>?_)) (.refl []))))
 ·rw [BU hi,BU hi,hd i hi]
 ·unfold rfF
  rw [hd i hi]
 ·have hk':k < kkN n g:=hk'
  show lnN _ _ n k = lnR n g (kkN n g) k
  unfold lnR
  rw [if_pos hk']
 ·have hk':k < kkN n g:=hk'
  have hq:q < lnR n g (kkN n g) k:=hq
  unfold lnR at hq
  rw [if_pos hk'] at hq
  show iV _ = iV _
  unfold coR
  rw [if_pos ⟨hk',hq⟩]
theorem Aee {a:Int} {n:Nat} {f:Nat->E6} (h8:AN n = true) (hc:ieq (BS a n f) 0 = true) :
  (A2 (An tab (Xk a n f) Try.f15 [iV a,A3 n f] [])).sem = some (.tup [Qn a n (shG n f),iV 0,iV 0],Ai8 n (shG n f)):=by
 have hy:=E9 hc
 have hlo:=hy.lo
 have hhi:=hy.hi
 have hL:=DW AgD (AcI a n f)
 have hg:=Ez hy
 have hko:rN (obF (shG n f)) n n = ttN n (shG n f):=Qz hg.outer
 have hkm:rN (mbF (shG n f)) n n = kkN n (shG n f):=Qz hg.moves
 have hkl:kkN n (shG n f) <= n:=Bd _ _
 unfold Xk
 have hQ:=U0 hL (U0 hL hL 4 (HR a n f (kkN n (shG n f)) (kkN n (shG n f)) (ofNat (ttN n (shG n f))) (thF n (shG n f)) (loF n (shG n f)) (evF n (shG n f) (dnF n (shG n f) (loN n (shG n f)) (kkN n (shG n f)) 0)) (rfF n (shG n f) (dnF n (shG n f) (loN n (shG n f)) (kkN n (shG n f)) 0)) (lnR n (shG n f) (kkN n (shG n f))) (coR n (shG n f) (kkN n (shG n f))))) 0 (O1 a n f n (ofNat (ttN n (shG n f))) (ofNat (kkN n (shG n f))) (thF n (shG n f)) (loF n (shG n f)) (λi=>evV (upX n (shG n f) n i)) (λ_=>-1))
 refine A6 (Az (Az hL hL) hL) _ (AjR _ _ _ a n f (ofNat (ttN n (shG n f))) (kkN n (shG n f)) (thF n (shG n f)) (loF n (shG n f)) (upX n (shG n f) n) (λ_=>-1)
  (evF n (shG n f) (dnF n (shG n f) (loN n (shG n f)) (kkN n (shG n f)) 0)) (rfF n (shG n f) (dnF n (shG n f) (loN n (shG n f)) (kkN n (shG n f)) 0)) (lnR n (shG n f) (kkN n (shG n f))) (coR n (shG n f) (kkN n (shG n f))) h8 hc (Tm.2 ⟨a,hy⟩) hg.may Cg (Am ?_) (Am ?_))
 ·show (A8 _ (J7 a n f) (n+1) (CW _ [(5,evV ⟨0,0,0,0,0⟩),(6,iV (-1))])).sem = _
  rw [Agv]
  have h:=λM hM m2 j=>Ac7 M hM a n f m2 hhi n 0 j (n+1) (by omega) (by omega)
  rw [Acy,hko,hkm] at h
  exact h _ hQ (λg st=>rfl) _
 ·show (A8 _ (L0 a n f) 17 (CW _ [(7,iV 0)])).sem = _
  rw [Z4]
  have h:=λL j=>Y0 L a n f hhi (thF n (shG n f)) (loF n (shG n f)) (ofNat (ttN n (shG n f))) (kkN n (shG n f)) 0 j 17 (by omega) (by omega)
  rw [<- X8,AiW,Ajt,show rfF n (shG n f) (dnF n (shG n f) (loN n (shG n f)) 0 0) = λ_=>-1 by rw [AcW]; rfl] at h
  exact h _ _
theorem p15:AA Try.prog Gl 15 ofT:=by
 refine A5 AQ AR Try.func15 (by kernel_rfl) (by kernel_rfl) λvs v h' h=>?_
 unfold ofT at h
 split at h
 ·rename_i a u
  obtain ⟨n,f,ha,h1⟩:=Cl h
  obtain ⟨h8,hq⟩:=Ag h1
  have hA:BL [iV a,u] [iV a,A3 n f]:=λS w cs hv=>by
   obtain ⟨c,l,rfl,q1,d,l',rfl,q2,q3⟩:=hv
   exact ⟨c,_,rfl,q1,d,l',rfl,ha S w d q2,q3⟩
  have hx:Bj Try.prog (Xk a n f).base ∧ BP (Xk a n f):=⟨Xr,S3 rfl⟩
  cases hc:ieq (BS a n f) 0 with
  | true =>
   rw [hc] at hq
   have:=Ac hq
   simp only [Prod.mk.injEq] at this
   obtain ⟨rfl,rfl⟩:=this
   have hg:=Ez (E9 hc)
   have hm:=hg.moves
   exact ⟨_,Xk a n f,_,hA,rfl,hx.1,hx.2,Aee h8 hc,Abg (by show 0 < Ak (λk=>Ar (shG n f k)) n; omega)⟩
  | false =>
   rw [hc] at hq
   have:=Ac hq
   simp only [Prod.mk.injEq] at this
   obtain ⟨rfl,rfl⟩:=this
   exact ⟨_,Xk a n f,_,hA,rfl,hx.1,hx.2,AjS _ a n f h8 hc,AE.refl _⟩
 ·cases h
end Go.Proofs.Ytjhnfomefcngfaa.Sh
