/-
  Layer 7: the document's shape of a cycle. No conditions.
-/
import Derived.Test.YtjhnfomefcngfaaShE
namespace Go.Proofs.Ytjhnfomefcngfaa.Sh
open Go.Sy Ed
open Int (ofNat)
set_option maxHeartbeats 1000000
set_option maxRecDepth 4000
def Abd:List V->T (V × List Blk):=GS fun n f=>.br (AL n) (.br (BI n f) (.leaf (.tup [.ref 0,iV 0],[.row 3 1 n fun k=>iV (A0 (fun k=>Az (f k)) n k)])) .fail) .fail
def Abc:List V->T (V × List Blk):=GS fun n f=>.br (AL n) (.br (BI n f) (.leaf (.tup [.ref 0,iV 0],[.row 3 1 n fun k=>iV (A0 (fun k=>Au (f k)) n k)])) .fail) .fail
theorem p57:AD Try.prog Gl 57 Abd:=AD.congr Ed.p53 fun vs r h=>by
  obtain ⟨v,rfl⟩:∃ v,vs = [v]:=by
    unfold Abd GS at h
    split at h
    · exact ⟨_,rfl⟩
    · cases h
  unfold Abd GS at h
  unfold JZ GS
  dsimp only at h ⊢
  unfold apL at h ⊢
  split at h
  · rename_i n g hg
    obtain ⟨h1,h⟩:=Ag h
    dsimp only at h
    obtain ⟨h2,h⟩:=Ag h
    obtain ⟨h3,h⟩:=Ag h
    rw [h1]
    dsimp only
    rw [h2,h3]
    exact h
  · cases h
theorem p58:AD Try.prog Gl 58 Abc:=AD.congr Ed.p54 fun vs r h=>by
  obtain ⟨v,rfl⟩:∃ v,vs = [v]:=by
    unfold Abc GS at h
    split at h
    · exact ⟨_,rfl⟩
    · cases h
  unfold Abc GS at h
  unfold JZ GS
  dsimp only at h ⊢
  unfold apL at h ⊢
  split at h
  · rename_i n g hg
    obtain ⟨h1,h⟩:=Ag h
    dsimp only at h
    obtain ⟨h2,h⟩:=Ag h
    obtain ⟨h3,h⟩:=Ag h
    rw [h1]
    dsimp only
    rw [h2,h3]
    exact h
  · cases h
noncomputable def Ahi:List (Nat × (List V->T (V × List Blk))):=[(19,WT),(56,Z4),(57,Abd),(58,Abc)]
theorem Aa3:AF Try.prog Gl Ahi:=.cons p49 <| .cons p56 <| .cons p57 <| .cons p58 .nil
def G6:List (Nat × Lp):=[(0,⟨(bmK 79 0 [1,2,4,5,6,7,8,9]),12,bmK 79 0 [2,4,5],12,17⟩)]
def KF:List (Nat × List (Nat × V)):=[(0,[(11,iV 0)])]
noncomputable def CN:FuncId->List V->St->T (V × Res):=SQ [(59,OC tab (cxZ Gl Tm KF G6) Try.f59)] (Ao Ahi)
theorem WU:Bm Try.prog ⟨CN,Gl⟩:=SP AP (.cons rfl AO (JH U6 KF G6).1 (JH U6 KF G6).2 Try.func59 (by kernel_rfl) (by kernel_rfl) .nil) (It rfl Aa3)
theorem AjG (L:LT) (a:Int) (n:Nat) (f:Nat->E6) (h0:AL n = true) (h1:ieq (B6 a n f) 0 = false):(A1 (Al tab ⟨CN,L,Gl⟩ Try.f15 [iV a,.sl 6 n fun i=>eV (f i)] [])).sem = some ((.tup [.agg [iV 0,.ref 0,.ref 1,iV 0,iV 0,.ref 2,.jref 3],iV (B6 a n f),iV (Gt a n f)]),[.row 44 6 0 (fun _=>.und),.row 40 5 0 (fun _=>.und),r3Z,jgZ]):=Aa [true,true,true] [An n (fun _=>true),AL n,Am (ieq (B6 a n f) 0)] (by kernel_rfl) (by simp only [h0,h1,Ar] <;> rfl)
def Jp (a:Int) (n:Nat) (f:Nat->E6):Lp:=⟨(bmK 132 0 [4,5,6,9,10,11,13,15,16]),8,bmK 132 0 [4,5,6,15],8,n+1⟩
def J1 (a:Int) (n:Nat) (f:Nat->E6) (b:Nat) (tt kk:Int) (th lo:Nat->Int) (x:Nat->V) (r:Nat->Int) (j:Nat->V):St:=⟨(jsV 132 0 j [(4,.ptr 0 0),(5,iV 0),(6,iV 0),(9,.ref 1),(10,nV n),(11,.ref 2),(13,.ref 3),(15,.ptr 4 0),(16,nV b)]),[c7Z,.row 44 6 n (fun i=>eV (shG n f i)),.row 3 1 n (fun k=>iV (th k)),.row 3 1 n (fun k=>iV (lo k)),.cells [iV a,.ref 1,.ref 5,iV tt,iV kk,.ref 6,.jref 7],.row 40 5 b x,.row 3 1 b (fun i=>iV (r i)),jgZ]⟩
def Oe (a:Int) (n:Nat) (f:Nat->E6) (b:Nat) (tt kk:Int) (th lo:Nat->Int) (x:Nat->V) (r:Nat->Int):Ex × St:=(.ex 0,⟨(jsV 132 0 (fun _=>.und) [(4,.ptr 0 0),(5,iV 0),(6,iV 0),(15,.ptr 4 0)]),[c7Z,.row 44 6 n (fun i=>eV (shG n f i)),.row 3 1 n (fun k=>iV (th k)),.row 3 1 n (fun k=>iV (lo k)),.cells [iV a,.ref 1,.ref 5,iV tt,iV kk,.ref 6,.jref 7],.row 40 5 b x,.row 3 1 b (fun i=>iV (r i)),jgZ]⟩)
noncomputable def EW (L:LT):St->T (Ex × St):=fun st=>A9 tab ⟨CN,L,Gl⟩ (Av Try.f15 0) 0 st
theorem AhG (L:LT) (a:Int) (n:Nat) (f:Nat->E6) (b:Nat) (tt kk:Int) (th lo:Nat->Int) (x:Nat->V) (r:Nat->Int)  (j:Nat->V) (h0:ilt (ofNat b) (ofNat n) = false):Ai (EW L) (Jp a n f) (J1 a n f b tt kk th lo x r j) = some ((.ex 0),⟨(jsV 132 0 (fun _=>.und) [(4,(.ptr 0 0)),(5,(iV 0)),(6,(iV 0)),(15,(.ptr 4 0))]),[c7Z,.row 44 6 n (fun i=>eV (shG n f i)),.row 3 1 n (fun k=>iV (th k)),.row 3 1 n (fun k=>iV (lo k)),.cells [iV a,.ref 1,.ref 5,iV tt,iV kk,.ref 6,.jref 7],.row 40 5 b x,.row 3 1 b (fun i=>iV (r i)),jgZ]⟩):=Aa [false] [ilt (ofNat b) (ofNat n)] (by kernel_rfl) (by simp only [h0] <;> rfl)
def V4 (a:Int) (n:Nat) (f:Nat->E6) :St:=⟨(jsV 132 0 (fun _=>A7) [(0,(iV a)),(1,(.sl 6 n (fun i=>eV (f i)))),(4,(.ptr 0 0)),(5,(iV 0)),(6,(iV 0)),(7,(iV (B6 a n f))),(8,(iV (Gt a n f))),(9,(.ref 1)),(10,(nV n)),(11,(.ref 2)),(12,(iV 0)),(13,(.ref 3)),(14,(iV 0)),(15,(.ptr 4 0)),(16,(iV 0)),(20,(.tup [iV (B6 a n f),iV (Gt a n f)])),(21,(iV a)),(22,(.sl 6 n (fun i=>eV (f i)))),(23,(.tup [iV (B6 a n f),iV (Gt a n f)])),(24,(iV (B6 a n f))),(25,(iV (Gt a n f))),(26,(iV (B6 a n f))),(27,(bV (Am (ieq (B6 a n f) 0)))),(31,(.sl 6 n (fun i=>eV (f i)))),(32,(.ref 1)),(33,(.ref 1)),(34,(nV n)),(35,(.tup [.ref 2,iV 0])),(36,(.ref 1)),(37,(.tup [.ref 2,iV 0])),(38,(.ref 2)),(39,(iV 0)),(40,(.tup [.ref 3,iV 0])),(41,(.ref 1)),(42,(.tup [.ref 3,iV 0])),(43,(.ref 3)),(44,(iV 0)),(45,(iV a)),(46,(.ref 1)),(47,(.agg [iV a,.ref 1,.nilS,iV 0,iV 0,.nilS,.nilS]))]),[c7Z,.row 44 6 n (fun i=>eV (shG n f i)),.row 3 1 n (fun k=>iV (A0 (fun k=>Az (shG n f k)) n k)),.row 3 1 n (fun k=>iV (A0 (fun k=>Au (shG n f k)) n k)),.cells [iV a,.ref 1,.ref 5,iV 0,iV 0,.ref 6,.jref 7],.row 40 5 0 (fun _=>.und),r3Z,jgZ]⟩
def DX (a:Int) (n:Nat) (f:Nat->E6) (b:Nat) (tt kk:Int) (th lo:Nat->Int) (x:Nat->V) (r:Nat->Int) (j:Nat->V):St:=⟨(jsV 132 0 j [(4,(.ptr 0 0)),(5,(iV 0)),(6,(iV 0)),(9,(.ref 1)),(10,(nV n)),(11,(.ref 2)),(13,(.ref 3)),(15,(.ptr 4 0)),(16,(nV b)),(17,(.ptr 8 0)),(18,(iV 0)),(48,(nV b)),(49,(nV n)),(50,(bV (ilt (ofNat b) (ofNat n)))),(53,(.ref 2)),(54,(nV b)),(55,(.ept 2 1 b 0)),(56,(iV (th b))),(57,(.ref 1)),(58,(nV b)),(59,(.ept 1 6 b 0)),(60,(.ept 1 6 b 3)),(61,(iV ((shG n f b)).src)),(62,(.ref 3)),(63,(nV b)),(64,(.ept 3 1 b 0)),(65,(iV (lo b))),(66,(.agg [iV (th b),iV 0,iV ((shG n f b)).src,iV (lo b),iV 0]))]),[c7Z,.row 44 6 n (fun i=>eV (shG n f i)),.row 3 1 n (fun k=>iV (th k)),.row 3 1 n (fun k=>iV (lo k)),.cells [iV a,.ref 1,.ref 5,iV tt,iV kk,.ref 6,.jref 7],.row 40 5 b x,.row 3 1 b (fun i=>iV (r i)),jgZ,.cells [iV (th b),iV 0,iV ((shG n f b)).src,iV (lo b),iV 0]]⟩
def Lf (a:Int) (n:Nat) (f:Nat->E6):Lp:=⟨(bmK 132 0 [4,5,6,9,10,11,13,15,16,17,18]),9,bmK 132 0 [4,5,6,9,10,11,13,15,16,17],9,n+1⟩
def MN (a:Int) (n:Nat) (f:Nat->E6) (b:Nat) (tt kk:Int) (th lo:Nat->Int) (x:Nat->V) (r:Nat->Int) (p:Int) (c:Nat) (j:Nat->V):St:=⟨(jsV 132 0 j [(4,.ptr 0 0),(5,iV 0),(6,iV 0),(9,.ref 1),(10,nV n),(11,.ref 2),(13,.ref 3),(15,.ptr 4 0),(16,nV b),(17,.ptr 8 0),(18,nV c)]),[c7Z,.row 44 6 n (fun i=>eV (shG n f i)),.row 3 1 n (fun k=>iV (th k)),.row 3 1 n (fun k=>iV (lo k)),.cells [iV a,.ref 1,.ref 5,iV tt,iV kk,.ref 6,.jref 7],.row 40 5 b x,.row 3 1 b (fun i=>iV (r i)),jgZ,.cells [iV (th b),iV p,iV ((shG n f b)).src,iV (lo b),iV 0]]⟩
def CQ (a:Int) (n:Nat) (f:Nat->E6) (b:Nat) (tt kk:Int) (th lo:Nat->Int) (x:Nat->V) (r:Nat->Int) (p:Int) (c:Nat):Ex × St:=(.ex 2,⟨(jsV 132 0 (fun _=>.und) [(4,.ptr 0 0),(5,iV 0),(6,iV 0),(9,.ref 1),(10,nV n),(11,.ref 2),(13,.ref 3),(15,.ptr 4 0),(16,nV b),(17,.ptr 8 0)]),[c7Z,.row 44 6 n (fun i=>eV (shG n f i)),.row 3 1 n (fun k=>iV (th k)),.row 3 1 n (fun k=>iV (lo k)),.cells [iV a,.ref 1,.ref 5,iV tt,iV kk,.ref 6,.jref 7],.row 40 5 b x,.row 3 1 b (fun i=>iV (r i)),jgZ,.cells [iV (th b),iV p,iV ((shG n f b)).src,iV (lo b),iV 0]]⟩)
noncomputable def C6 (L:LT):St->T (Ex × St):=fun st=>A9 tab ⟨CN,L,Gl⟩ (Av Try.f15 2) 2 st
section
variable (L:LT) (a:Int) (n:Nat) (f:Nat->E6) (b:Nat) (tt kk:Int) (th lo:Nat->Int) (x:Nat->V) (r:Nat->Int) (p:Int) (c:Nat)  (j:Nat->V)
include L a n f b tt kk th lo x r p c j
theorem AhA (h0:ilt (ofNat c) (ofNat b) = false):Ai (C6 L) (Lf a n f) (MN a n f b tt kk th lo x r p c j) = some ((.ex 2),⟨(jsV 132 0 (fun _=>.und) [(4,(.ptr 0 0)),(5,(iV 0)),(6,(iV 0)),(9,(.ref 1)),(10,(nV n)),(11,(.ref 2)),(13,(.ref 3)),(15,(.ptr 4 0)),(16,(nV b)),(17,(.ptr 8 0))]),[c7Z,.row 44 6 n (fun i=>eV (shG n f i)),.row 3 1 n (fun k=>iV (th k)),.row 3 1 n (fun k=>iV (lo k)),.cells [iV a,.ref 1,.ref 5,iV tt,iV kk,.ref 6,.jref 7],.row 40 5 b x,.row 3 1 b (fun i=>iV (r i)),jgZ,.cells [iV (th b),iV p,iV ((shG n f b)).src,iV (lo b),iV 0]]⟩):=Aa [false] [ilt (ofNat c) (ofNat b)] (by kernel_rfl) (by simp only [h0] <;> rfl)
theorem Ah9 (h0:ilt (ofNat c) (ofNat b) = true) (h19:Af (ile 0 (ofNat c)) (ilt (ofNat c) (ofNat n)) = true) (h1:nlt c n = true) (h21:Af (ile 0 (ofNat b)) (ilt (ofNat b) (ofNat n)) = true) (h2:nlt b n = true) (h3:ieq (th c) (th b) = false):Ai (C6 L) (Lf a n f) (MN a n f b tt kk th lo x r p c j) = some (.nm,⟨(jsV 132 0 (fun _=>.und) [(4,(.ptr 0 0)),(5,(iV 0)),(6,(iV 0)),(9,(.ref 1)),(10,(nV n)),(11,(.ref 2)),(13,(.ref 3)),(15,(.ptr 4 0)),(16,(nV b)),(17,(.ptr 8 0)),(18,(iV (wr .i64 (Ae (ofNat c) 1))))]),[c7Z,.row 44 6 n (fun i=>eV (shG n f i)),.row 3 1 n (fun k=>iV (th k)),.row 3 1 n (fun k=>iV (lo k)),.cells [iV a,.ref 1,.ref 5,iV tt,iV kk,.ref 6,.jref 7],.row 40 5 b x,.row 3 1 b (fun i=>iV (r i)),jgZ,.cells [iV (th b),iV p,iV ((shG n f b)).src,iV (lo b),iV 0]]⟩):=Aa (bbK 6 31) [ilt (ofNat c) (ofNat b),Af (ile 0 (ofNat c)) (ilt (ofNat c) (ofNat n)),nlt c n,Af (ile 0 (ofNat b)) (ilt (ofNat b) (ofNat n)),nlt b n,ieq (th c) (th b)] (by kernel_rfl) (by simp only [h19,h21] <;> simp only [*] <;> rfl)
theorem Ah8 (h0:ilt (ofNat c) (ofNat b) = true) (h19:Af (ile 0 (ofNat c)) (ilt (ofNat c) (ofNat n)) = true) (h1:nlt c n = true) (h21:Af (ile 0 (ofNat b)) (ilt (ofNat b) (ofNat n)) = true) (h2:nlt b n = true) (h3:ieq (th c) (th b) = true):Ai (C6 L) (Lf a n f) (MN a n f b tt kk th lo x r p c j) = some (.nm,⟨(jsV 132 0 (fun _=>.und) [(4,(.ptr 0 0)),(5,(iV 0)),(6,(iV 0)),(9,(.ref 1)),(10,(nV n)),(11,(.ref 2)),(13,(.ref 3)),(15,(.ptr 4 0)),(16,(nV b)),(17,(.ptr 8 0)),(18,(iV (wr .i64 (Ae (ofNat c) 1))))]),[c7Z,.row 44 6 n (fun i=>eV (shG n f i)),.row 3 1 n (fun k=>iV (th k)),.row 3 1 n (fun k=>iV (lo k)),.cells [iV a,.ref 1,.ref 5,iV tt,iV kk,.ref 6,.jref 7],.row 40 5 b x,.row 3 1 b (fun i=>iV (r i)),jgZ,.cells [iV (th b),iV (wr .i64 (Ae p 1)),iV ((shG n f b)).src,iV (lo b),iV 0]]⟩):=Aa (bbK 6 63) [ilt (ofNat c) (ofNat b),Af (ile 0 (ofNat c)) (ilt (ofNat c) (ofNat n)),nlt c n,Af (ile 0 (ofNat b)) (ilt (ofNat b) (ofNat n)),nlt b n,ieq (th c) (th b)] (by kernel_rfl) (by simp only [h19,h21] <;> simp only [*] <;> rfl)
end
section
variable (L:LT) (p2:PT) (a:Int) (n:Nat) (f:Nat->E6) (b:Nat) (tt kk:Int) (th lo:Nat->Int) (x:Nat->V) (r:Nat->Int) (p:Int) (j:Nat->V)
include L p2 a n f b tt kk th lo x r p j
theorem Aev (h0:ilt (ofNat b) (ofNat n) = true) (h17:ile 0 (ofNat b) = true) (h18:nlt b n = true) (h19:Bj b 1 40 = true) (h20:Bj b 1 8 = true) (h1:ile tt (th b) = true) (h2:ile kk (lo b) = true) (hp2:p2 (C6 (onP 2 p2 (CQ a n f b tt kk th lo x r p b) L)) (DX a n f b tt kk th lo x r j) = true):Ai (EW (onP 2 p2 (CQ a n f b tt kk th lo x r p b) L)) (Jp a n f) (J1 a n f b tt kk th lo x r j) = some (.nm,⟨(jsV 132 0 (fun _=>.und) [(4,(.ptr 0 0)),(5,(iV 0)),(6,(iV 0)),(9,(.ref 1)),(10,(nV n)),(11,(.ref 2)),(13,(.ref 3)),(15,(.ptr 4 0)),(16,(iV (wr .i64 (Ae (ofNat b) 1))))]),[c7Z,.row 44 6 n (fun i=>eV (shG n f i)),.row 3 1 n (fun k=>iV (th k)),.row 3 1 n (fun k=>iV (lo k)),.cells [iV a,.ref 1,.ref 5,iV (wr .i64 (Ae (th b) 1)),iV (wr .i64 (Ae (lo b) 1)),.ref 6,.jref 7],.row 40 5 (B4 b 1) (AK b x (.agg [iV (th b),iV p,iV ((shG n f b)).src,iV (lo b),iV 0])),.row 3 1 (B4 b 1) (AK b (fun i=>iV (r i)) (iV (-1))),jgZ]⟩):=Aa (bbK 62 4611686018427387903) ((fun c0 c1 c2 c3 c4 c5 c6 c7=>[ilt (ofNat b) (ofNat n),c0,c1,c0,c1,c0,c1,c2,c0,c3,c1,c4,c2,c0,c3,c3,c1,c5,c2,c0,c3,c1,c6,c4,c7,c5,c6,c7,c2,c0,c3,c1,c4,c2,c0,c3,c3,c1,c5,c2,c0,c3,c1,c6,c4,c7,c5,c6,c7,p2 (C6 (onP 2 p2 (CQ a n f b tt kk th lo x r p b) L)) (DX a n f b tt kk th lo x r j),Bj b 1 40,Bj b 1 8,c0,c1,ile tt (th b),c0,c1,c0,c1,ile kk (lo b),c0,c1]) (Af (ile 0 (ofNat b)) (ilt (ofNat b) (ofNat n))) (nlt b n) (ieq (ofNat b) (ofNat b)) (AN b b) (ieq (th b) (th b)) (ieq ((shG n f b)).src ((shG n f b)).src) (ieq (lo b) (lo b)) (ieq 0 0)) (by kernel_rfl) (by simp only [hp2] <;> simp only [*,Br,nbeq_self] <;> rfl)
theorem Aew (h0:ilt (ofNat b) (ofNat n) = true) (h17:ile 0 (ofNat b) = true) (h18:nlt b n = true) (h19:Bj b 1 40 = true) (h20:Bj b 1 8 = true) (h1:ile tt (th b) = true) (h2:ile kk (lo b) = false) (hp2:p2 (C6 (onP 2 p2 (CQ a n f b tt kk th lo x r p b) L)) (DX a n f b tt kk th lo x r j) = true):Ai (EW (onP 2 p2 (CQ a n f b tt kk th lo x r p b) L)) (Jp a n f) (J1 a n f b tt kk th lo x r j) = some (.nm,⟨(jsV 132 0 (fun _=>.und) [(4,(.ptr 0 0)),(5,(iV 0)),(6,(iV 0)),(9,(.ref 1)),(10,(nV n)),(11,(.ref 2)),(13,(.ref 3)),(15,(.ptr 4 0)),(16,(iV (wr .i64 (Ae (ofNat b) 1))))]),[c7Z,.row 44 6 n (fun i=>eV (shG n f i)),.row 3 1 n (fun k=>iV (th k)),.row 3 1 n (fun k=>iV (lo k)),.cells [iV a,.ref 1,.ref 5,iV (wr .i64 (Ae (th b) 1)),iV kk,.ref 6,.jref 7],.row 40 5 (B4 b 1) (AK b x (.agg [iV (th b),iV p,iV ((shG n f b)).src,iV (lo b),iV 0])),.row 3 1 (B4 b 1) (AK b (fun i=>iV (r i)) (iV (-1))),jgZ]⟩):=Aa (bbK 60 576460752303423487) ((fun c0 c1 c2 c3 c4 c5 c6 c7=>[ilt (ofNat b) (ofNat n),c0,c1,c0,c1,c0,c1,c2,c0,c3,c1,c4,c2,c0,c3,c3,c1,c5,c2,c0,c3,c1,c6,c4,c7,c5,c6,c7,c2,c0,c3,c1,c4,c2,c0,c3,c3,c1,c5,c2,c0,c3,c1,c6,c4,c7,c5,c6,c7,p2 (C6 (onP 2 p2 (CQ a n f b tt kk th lo x r p b) L)) (DX a n f b tt kk th lo x r j),Bj b 1 40,Bj b 1 8,c0,c1,ile tt (th b),c0,c1,c0,c1,ile kk (lo b)]) (Af (ile 0 (ofNat b)) (ilt (ofNat b) (ofNat n))) (nlt b n) (ieq (ofNat b) (ofNat b)) (AN b b) (ieq (th b) (th b)) (ieq ((shG n f b)).src ((shG n f b)).src) (ieq (lo b) (lo b)) (ieq 0 0)) (by kernel_rfl) (by simp only [hp2] <;> simp only [*,Br,nbeq_self] <;> rfl)
theorem Aex (h0:ilt (ofNat b) (ofNat n) = true) (h17:ile 0 (ofNat b) = true) (h18:nlt b n = true) (h19:Bj b 1 40 = true) (h20:Bj b 1 8 = true) (h1:ile tt (th b) = false) (h2:ile kk (lo b) = true) (hp2:p2 (C6 (onP 2 p2 (CQ a n f b tt kk th lo x r p b) L)) (DX a n f b tt kk th lo x r j) = true):Ai (EW (onP 2 p2 (CQ a n f b tt kk th lo x r p b) L)) (Jp a n f) (J1 a n f b tt kk th lo x r j) = some (.nm,⟨(jsV 132 0 (fun _=>.und) [(4,(.ptr 0 0)),(5,(iV 0)),(6,(iV 0)),(9,(.ref 1)),(10,(nV n)),(11,(.ref 2)),(13,(.ref 3)),(15,(.ptr 4 0)),(16,(iV (wr .i64 (Ae (ofNat b) 1))))]),[c7Z,.row 44 6 n (fun i=>eV (shG n f i)),.row 3 1 n (fun k=>iV (th k)),.row 3 1 n (fun k=>iV (lo k)),.cells [iV a,.ref 1,.ref 5,iV tt,iV (wr .i64 (Ae (lo b) 1)),.ref 6,.jref 7],.row 40 5 (B4 b 1) (AK b x (.agg [iV (th b),iV p,iV ((shG n f b)).src,iV (lo b),iV 0])),.row 3 1 (B4 b 1) (AK b (fun i=>iV (r i)) (iV (-1))),jgZ]⟩):=Aa (bbK 60 1134907106097364991) ((fun c0 c1 c2 c3 c4 c5 c6 c7=>[ilt (ofNat b) (ofNat n),c0,c1,c0,c1,c0,c1,c2,c0,c3,c1,c4,c2,c0,c3,c3,c1,c5,c2,c0,c3,c1,c6,c4,c7,c5,c6,c7,c2,c0,c3,c1,c4,c2,c0,c3,c3,c1,c5,c2,c0,c3,c1,c6,c4,c7,c5,c6,c7,p2 (C6 (onP 2 p2 (CQ a n f b tt kk th lo x r p b) L)) (DX a n f b tt kk th lo x r j),Bj b 1 40,Bj b 1 8,c0,c1,ile tt (th b),c0,c1,ile kk (lo b),c0,c1]) (Af (ile 0 (ofNat b)) (ilt (ofNat b) (ofNat n))) (nlt b n) (ieq (ofNat b) (ofNat b)) (AN b b) (ieq (th b) (th b)) (ieq ((shG n f b)).src ((shG n f b)).src) (ieq (lo b) (lo b)) (ieq 0 0)) (by kernel_rfl) (by simp only [hp2] <;> simp only [*,Br,nbeq_self] <;> rfl)
theorem Aey (h0:ilt (ofNat b) (ofNat n) = true) (h17:ile 0 (ofNat b) = true) (h18:nlt b n = true) (h19:Bj b 1 40 = true) (h20:Bj b 1 8 = true) (h1:ile tt (th b) = false) (h2:ile kk (lo b) = false) (hp2:p2 (C6 (onP 2 p2 (CQ a n f b tt kk th lo x r p b) L)) (DX a n f b tt kk th lo x r j) = true):Ai (EW (onP 2 p2 (CQ a n f b tt kk th lo x r p b) L)) (Jp a n f) (J1 a n f b tt kk th lo x r j) = some (.nm,⟨(jsV 132 0 (fun _=>.und) [(4,(.ptr 0 0)),(5,(iV 0)),(6,(iV 0)),(9,(.ref 1)),(10,(nV n)),(11,(.ref 2)),(13,(.ref 3)),(15,(.ptr 4 0)),(16,(iV (wr .i64 (Ae (ofNat b) 1))))]),[c7Z,.row 44 6 n (fun i=>eV (shG n f i)),.row 3 1 n (fun k=>iV (th k)),.row 3 1 n (fun k=>iV (lo k)),.cells [iV a,.ref 1,.ref 5,iV tt,iV kk,.ref 6,.jref 7],.row 40 5 (B4 b 1) (AK b x (.agg [iV (th b),iV p,iV ((shG n f b)).src,iV (lo b),iV 0])),.row 3 1 (B4 b 1) (AK b (fun i=>iV (r i)) (iV (-1))),jgZ]⟩):=Aa (bbK 58 126100789566373887) ((fun c0 c1 c2 c3 c4 c5 c6 c7=>[ilt (ofNat b) (ofNat n),c0,c1,c0,c1,c0,c1,c2,c0,c3,c1,c4,c2,c0,c3,c3,c1,c5,c2,c0,c3,c1,c6,c4,c7,c5,c6,c7,c2,c0,c3,c1,c4,c2,c0,c3,c3,c1,c5,c2,c0,c3,c1,c6,c4,c7,c5,c6,c7,p2 (C6 (onP 2 p2 (CQ a n f b tt kk th lo x r p b) L)) (DX a n f b tt kk th lo x r j),Bj b 1 40,Bj b 1 8,c0,c1,ile tt (th b),c0,c1,ile kk (lo b)]) (Af (ile 0 (ofNat b)) (ilt (ofNat b) (ofNat n))) (nlt b n) (ieq (ofNat b) (ofNat b)) (AN b b) (ieq (th b) (th b)) (ieq ((shG n f b)).src ((shG n f b)).src) (ieq (lo b) (lo b)) (ieq 0 0)) (by kernel_rfl) (by simp only [hp2] <;> simp only [*,Br,nbeq_self] <;> rfl)
end
def Le (a:Int) (n:Nat) (f:Nat->E6):Lp:=⟨(bmK 132 0 [4,15,19]),8,bmK 132 0 [4,15],8,17⟩
def MM (a:Int) (n:Nat) (f:Nat->E6) (b kk:Nat) (tt:Int) (th lo:Nat->Int) (x:Nat->Ev5) (r:Nat->Int) (ln:Nat->Nat) (co:Nat->Nat->Int) (j:Nat->V):St:=⟨(jsV 132 0 j [(4,.ptr 0 0),(15,.ptr 4 0),(19,nV b)]),[c7Z,.row 44 6 n (fun i=>eV (shG n f i)),.row 3 1 n (fun i=>iV (th i)),.row 3 1 n (fun i=>iV (lo i)),.cells [iV a,.ref 1,.ref 5,iV tt,nV kk,.ref 6,.jref 7],.row 40 5 n (fun i=>evV (x i)),.row 3 1 n (fun i=>iV (r i)),.jag (Jag.mk 25 1 b (fun _=>.und) 0 3 1 (fun _=>true) ln (fun i q=>iV (co i q)))]⟩
def Hy (a:Int) (n:Nat) (f:Nat->E6) (b kk:Nat) (tt:Int) (th lo:Nat->Int) (x:Nat->Ev5) (r:Nat->Int) (ln:Nat->Nat) (co:Nat->Nat->Int):Ex × St:=(.ex 4,⟨(jsV 132 0 (fun _=>.und) [(4,.ptr 0 0),(15,.ptr 4 0)]),[c7Z,.row 44 6 n (fun i=>eV (shG n f i)),.row 3 1 n (fun i=>iV (th i)),.row 3 1 n (fun i=>iV (lo i)),.cells [iV a,.ref 1,.ref 5,iV tt,nV kk,.ref 6,.jref 7],.row 40 5 n (fun i=>evV (x i)),.row 3 1 n (fun i=>iV (r i)),.jag (Jag.mk 25 1 b (fun _=>.und) 0 3 1 (fun _=>true) ln (fun i q=>iV (co i q)))]⟩)
def Ts (b:Nat) (u:Nat->V):List V:=(jsV 132 0 u [(4,.ptr 0 0),(15,.ptr 4 0),(19,nV b)])
noncomputable def Iv (L:LT):St->T (Ex × St):=fun st=>A9 tab ⟨CN,L,Gl⟩ (Av Try.f15 4) 4 st
theorem Ahy (L:LT) (a:Int) (n:Nat) (f:Nat->E6) (b kk:Nat) (tt:Int) (th lo:Nat->Int) (x:Nat->Ev5) (r:Nat->Int) (ln:Nat->Nat) (co:Nat->Nat->Int)  (j:Nat->V) (h0:ilt (ofNat b) (ofNat kk) = false):(((A9 tab ⟨CN,L,Gl⟩ (Av Try.f15 4) 4 (MM a n f b kk tt th lo x r ln co j)).bind fun rr=>T.leaf (QQ (Le a n f) rr))).sem = some ((.ex 4),⟨(jsV 132 0 (fun _=>.und) [(4,(.ptr 0 0)),(15,(.ptr 4 0))]),[c7Z,.row 44 6 n (fun i=>eV (shG n f i)),.row 3 1 n (fun i=>iV (th i)),.row 3 1 n (fun i=>iV (lo i)),.cells [iV a,.ref 1,.ref 5,iV tt,nV kk,.ref 6,.jref 7],.row 40 5 n (fun i=>.agg [iV ((x i)).th,iV ((x i)).pl,iV ((x i)).dir,iV ((x i)).loc,iV ((x i)).val]),.row 3 1 n (fun i=>iV (r i)),.jag (Jag.mk 25 1 b (fun _=>.und) 0 3 1 (fun _=>true) ln (fun i q=>iV (co i q)))]⟩):=Aa [false] [ilt (ofNat b) (ofNat kk)] (by kernel_rfl) (by simp only [h0] <;> rfl)
theorem Ahx (L:LT) (a:Int) (n:Nat) (f:Nat->E6) (b kk:Nat) (tt:Int) (th lo:Nat->Int) (x:Nat->Ev5) (r:Nat->Int) (ln:Nat->Nat) (co:Nat->Nat->Int) (u:Nat->V) (x':Nat->Ev5) (r':Nat->Int) (ln':Nat->Nat) (co':Nat->Nat->Int) (lv':Nat->Bool) (c':Nat->V) (d:List Blk) (q59:List V->St->Bool) (j:Nat->V) (h0:ilt (ofNat b) (ofNat kk) = true) (hq59:(q59 [.agg [iV a,.ref 1,.ref 5,iV tt,nV kk,.ref 6,.jref 7],nV b] ⟨(jsV 132 0 j [(4,(.ptr 0 0)),(15,(.ptr 4 0)),(19,(nV b)),(122,(nV b)),(123,(.ptr 4 4)),(124,(nV kk)),(125,(bV (ilt (ofNat b) (ofNat kk)))),(128,(.agg [iV a,.ref 1,.ref 5,iV tt,nV kk,.ref 6,.jref 7])),(129,(nV b))]),[c7Z,.row 44 6 n (fun i=>eV (shG n f i)),.row 3 1 n (fun i=>iV (th i)),.row 3 1 n (fun i=>iV (lo i)),.cells [iV a,.ref 1,.ref 5,iV tt,nV kk,.ref 6,.jref 7],.row 40 5 n (fun i=>.agg [iV ((x i)).th,iV ((x i)).pl,iV ((x i)).dir,iV ((x i)).loc,iV ((x i)).val]),.row 3 1 n (fun i=>iV (r i)),.jag (Jag.mk 25 1 b (fun _=>.und) 0 3 1 (fun _=>true) ln (fun i q=>iV (co i q)))]⟩) = true):(((A9 tab ⟨(onC 59 q59 ((.agg [iV a,.ref 1,.ref 5,iV tt,nV kk,.ref 6,.jref 7]),.all ⟨Ts b u,[c7Z,.row 44 6 n (fun i=>eV (shG n f i)),.row 3 1 n (fun i=>iV (th i)),.row 3 1 n (fun i=>iV (lo i)),.cells [iV a,.ref 1,.ref 5,iV tt,nV kk,.ref 6,.und],.row 40 5 n (fun i=>evV (x' i)),.row 3 1 n (fun i=>iV (r' i)),.jag (Jag.mk 25 1 (B4 b 1) c' 0 3 1 lv' ln' (fun i q=>iV (co' i q)))] ++ d⟩) (CN)),L,Gl⟩ (Av Try.f15 4) 4 (MM a n f b kk tt th lo x r ln co j)).bind fun rr=>T.leaf (QQ (Le a n f) rr))).sem = some (.nm,⟨(jsV 132 0 (fun _=>.und) [(4,(.ptr 0 0)),(15,(.ptr 4 0)),(19,(iV (wr .i64 (Ae (ofNat b) 1))))]),[c7Z,.row 44 6 n (fun i=>eV (shG n f i)),.row 3 1 n (fun i=>iV (th i)),.row 3 1 n (fun i=>iV (lo i)),.cells [iV a,.ref 1,.ref 5,iV tt,nV kk,.ref 6,.jref 7],.row 40 5 n (fun i=>.agg [iV ((x' i)).th,iV ((x' i)).pl,iV ((x' i)).dir,iV ((x' i)).loc,iV ((x' i)).val]),.row 3 1 n (fun i=>iV (r' i)),.jag (Jag.mk 25 1 (B4 b 1) c' 0 3 1 lv' ln' (fun i q=>iV (co' i q)))]⟩):=Aa [true,true] [ilt (ofNat b) (ofNat kk),q59 [.agg [iV a,.ref 1,.ref 5,iV tt,nV kk,.ref 6,.jref 7],nV b] ⟨(jsV 132 0 j [(4,(.ptr 0 0)),(15,(.ptr 4 0)),(19,(nV b)),(122,(nV b)),(123,(.ptr 4 4)),(124,(nV kk)),(125,(bV (ilt (ofNat b) (ofNat kk)))),(128,(.agg [iV a,.ref 1,.ref 5,iV tt,nV kk,.ref 6,.jref 7])),(129,(nV b))]),[c7Z,.row 44 6 n (fun i=>eV (shG n f i)),.row 3 1 n (fun i=>iV (th i)),.row 3 1 n (fun i=>iV (lo i)),.cells [iV a,.ref 1,.ref 5,iV tt,nV kk,.ref 6,.jref 7],.row 40 5 n (fun i=>.agg [iV ((x i)).th,iV ((x i)).pl,iV ((x i)).dir,iV ((x i)).loc,iV ((x i)).val]),.row 3 1 n (fun i=>iV (r i)),.jag (Jag.mk 25 1 b (fun _=>.und) 0 3 1 (fun _=>true) ln (fun i q=>iV (co i q)))]⟩] (by kernel_rfl) (by simp only [hq59] <;> simp only [h0] <;> rfl)
def My (a:Int) (n:Nat) (f:Nat->E6) (tt:Int) (kk:Nat) (th lo:Nat->Int) (x:Nat->Ev5) (r:Nat->Int):St:=⟨(jsV 132 0 (fun _=>.und) [(4,(.ptr 0 0)),(5,(iV 0)),(6,(iV 0)),(15,(.ptr 4 0)),(19,(iV 0))]),[c7Z,.row 44 6 n (fun i=>eV (shG n f i)),.row 3 1 n (fun k=>iV (th k)),.row 3 1 n (fun k=>iV (lo k)),.cells [iV a,.ref 1,.ref 5,iV tt,nV kk,.ref 6,.jref 7],.row 40 5 n (fun i=>.agg [iV ((x i)).th,iV ((x i)).pl,iV ((x i)).dir,iV ((x i)).loc,iV ((x i)).val]),.row 3 1 n (fun i=>iV (r i)),jgZ]⟩
theorem AjF (L:LT) (p0:PT) (p4:PT) (a:Int) (n:Nat) (f:Nat->E6) (tt:Int) (kk:Nat) (th lo:Nat->Int) (x:Nat->Ev5) (r:Nat->Int) (x':Nat->Ev5) (r':Nat->Int) (ln':Nat->Nat) (co':Nat->Nat->Int) (h16:AL n = true) (h0:ieq (B6 a n f) 0 = true) (h1:Z2 n f = true) (h17:BI n (fun i=>shG n f i) = true) (h18:Bg [.row 3 1 n (fun _=>iV 0)] = true) (hp0:p0 (EW (onP 0 p0 (Oe a n f n tt (ofNat kk) th lo (fun i=>evV (x i)) r) (onP 4 p4 (Hy a n f kk kk tt th lo x' r' ln' co') L))) (V4 a n f) = true) (hp4:p4 (Iv (onP 0 p0 (Oe a n f n tt (ofNat kk) th lo (fun i=>evV (x i)) r) (onP 4 p4 (Hy a n f kk kk tt th lo x' r' ln' co') L))) (My a n f tt kk th lo x r) = true):(A1 (Al tab ⟨CN,onP 0 p0 (Oe a n f n tt (ofNat kk) th lo (fun i=>evV (x i)) r) (onP 4 p4 (Hy a n f kk kk tt th lo x' r' ln' co') L),Gl⟩ Try.f15 [iV a,.sl 6 n fun i=>eV (f i)] [])).sem = some ((.tup [.agg [iV a,.ref 0,.ref 1,iV tt,nV kk,.ref 2,.jref 3],iV 0,iV 0]),[.row 44 6 n (fun i=>eV (shG n f i)),.row 40 5 n (fun i=>.agg [iV ((x' i)).th,iV ((x' i)).pl,iV ((x' i)).dir,iV ((x' i)).loc,iV ((x' i)).val]),.row 3 1 n (fun i=>iV (r' i)),.jag (Jag.mk 25 1 kk (fun _=>.und) 0 3 1 (fun _=>true) ln' (fun i q=>iV (co' i q)))]):=Aa (bbK 16 65531) ((fun c0 c1 c2 c3=>[c0,c1,Am (ieq (B6 a n f) 0),c0,c1,Z2 n f,c0,c1,c2,c3,c0,c1,c2,c3,p0 (EW (onP 0 p0 (Oe a n f n tt (ofNat kk) th lo (fun i=>evV (x i)) r) (onP 4 p4 (Hy a n f kk kk tt th lo x' r' ln' co') L))) (V4 a n f),p4 (Iv (onP 0 p0 (Oe a n f n tt (ofNat kk) th lo (fun i=>evV (x i)) r) (onP 4 p4 (Hy a n f kk kk tt th lo x' r' ln' co') L))) (My a n f tt kk th lo x r)]) (An n (fun _=>true)) (AL n) (BI n (fun i=>shG n f i)) (Bg [.row 3 1 n (fun _=>iV 0)])) (by kernel_rfl) (by simp only [hp0,hp4] <;> simp only [*,Ar,BY] <;> rfl)
theorem ile_nat (a b:Nat):ile (ofNat a) (ofNat b) = decide (a <= b):=by
  unfold ile
  rw [Bool.eq_iff_iff]
  simp
theorem YY (a b:Int):ieq a b = ieq b a:=by
  unfold ieq
  rw [Bool.eq_iff_iff]
  simp only [beq_iff_eq]
  exact eq_comm
theorem T8 (L:LT) (a:Int) (n:Nat) (f:Nat->E6) (b:Nat) (tt kk:Int) (th lo:Nat->Int) (x:Nat->V) (r:Nat->Int) (hb:b < n) (hn:n <= 16):∀ (e c:Nat) (j:Nat->V) (q:Nat),b = c+e->e < q ->
    (A3 (C6 L) (Lf a n f) q (MN a n f b tt kk th lo x r (ofNat (Aj (fun k=>ieq (th k) (th b)) c)) c j)).sem = some (CQ a n f b tt kk th lo x r (ofNat (Aj (fun k=>ieq (th k) (th b)) b)) b)
  | 0,c,j,q+1,h,_=>by
    have:b = c:=by omega
    subst this
    exact Ab (AhA L a n f b tt kk th lo x r _ b j (A8 (Nat.le_refl _)))
  | e+1,c,j,q+1,h,h2=>by
    have hl:c < b:=by omega
    have hc:=Bd (fun k=>ieq (th k) (th b)) c
    cases hp:ieq (th c) (th b) with
    | true =>
      rw [Ab (Ah8 L a n f b tt kk th lo x r _ c j (ofNat_lt hl) (Ay (by omega)) (decide_eq_true (by omega)) (Ay hb) (decide_eq_true hb) hp),Aw,Aq hl (by omega),Aq (n:=n) (by omega) (by omega),<- Bi (p:=fun k=>ieq (th k) (th b)) hp]
      exact T8 L a n f b tt kk th lo x r hb hn e (c+1) (fun _=>.und) q (by omega) (by omega)
    | false =>
      rw [Ab (Ah9 L a n f b tt kk th lo x r _ c j (ofNat_lt hl) (Ay (by omega)) (decide_eq_true (by omega)) (Ay hb) (decide_eq_true hb) hp),Aw,Aq hl (by omega),<- B2 (p:=fun k=>ieq (th k) (th b)) hp]
      exact T8 L a n f b tt kk th lo x r hb hn e (c+1) (fun _=>.und) q (by omega) (by omega)
theorem Ug (a:Int) (n:Nat) (f:Nat->E6) (b:Nat) (tt kk:Int) (th lo:Nat->Int) (x:Nat->V) (r:Nat->Int) (j:Nat->V):DX a n f b tt kk th lo x r j = MN a n f b tt kk th lo x r 0 0 (fun i=>nth (DX a n f b tt kk th lo x r j).t i):=by kernel_rfl
theorem AiL {p:Nat->Bool} {n b:Nat} (hb:b < n) (hn:n <= 16):(ile (ofNat (rN p n b)) (A0 p n b) = true ∧ wr .i64 (Ae (A0 p n b) 1) = ofNat (rN p n (b+1))) ∨ (ile (ofNat (rN p n b)) (A0 p n b) = false ∧ rN p n b = rN p n (b+1)):=by
  have h1:=Ka p n b hb
  have h2:=R0 p n b
  rw [Hf hb,Aq (n:=n) (by omega) (by omega),ile_nat,rN]
  by_cases h:Ba p n b < rN p n b
  · rw [if_pos h]
    exact .inr ⟨decide_eq_false (by omega),rfl⟩
  · rw [if_neg h]
    exact .inl ⟨decide_eq_true (by omega),by rw [show Ba p n b = rN p n b by omega]⟩
theorem Acl (M:LT) (hMM:LLe M M) (a:Int) (n:Nat) (f:Nat->E6) (m2:∀ g st,M 2 g st = A3 g (Lf a n f) (n+1) st) (hn:n <= 16):∀ (e b:Nat) (j:Nat->V) (q:Nat),n = b+e->e < q ->
    (A3 (EW M) (Jp a n f) q (J1 a n f b (ofNat (rN (obF (shG n f)) n b)) (ofNat (rN (mbF (shG n f)) n b)) (thF n (shG n f)) (loF n (shG n f)) (fun i=>evV (upX n (shG n f) b i)) (fun _=>-1) j)).sem = some (Oe a n f n (ofNat (rN (obF (shG n f)) n n)) (ofNat (rN (mbF (shG n f)) n n)) (thF n (shG n f)) (loF n (shG n f)) (fun i=>evV (upX n (shG n f) n i)) (fun _=>-1))
  | 0,b,j,q+1,h,_=>by
    have:n = b:=by omega
    subst this
    exact Ab (AhG M a n f n _ _ _ _ _ _ j (A8 (Nat.le_refl _)))
  | e+1,b,j,q+1,h,h2=>by
    have hl:b < n:=by omega
    have hi:∀ M',(M 2 (C6 M') (DX a n f b (ofNat (rN (obF (shG n f)) n b)) (ofNat (rN (mbF (shG n f)) n b)) (thF n (shG n f)) (loF n (shG n f)) (fun i=>evV (upX n (shG n f) b i)) (fun _=>-1) j)).sem = some (CQ a n f b (ofNat (rN (obF (shG n f)) n b)) (ofNat (rN (mbF (shG n f)) n b)) (thF n (shG n f)) (loF n (shG n f)) (fun i=>evV (upX n (shG n f) b i)) (fun _=>-1) (ofNat (Aj (fun k=>ieq (thF n (shG n f) k) (thF n (shG n f) b)) b)) b):=fun M'=>by
      rw [m2,Ug]
      exact T8 M' a n f b (ofNat (rN (obF (shG n f)) n b)) (ofNat (rN (mbF (shG n f)) n b)) (thF n (shG n f)) (loF n (shG n f)) (fun i=>evV (upX n (shG n f) b i)) (fun _=>-1) hl hn b 0 _ (n+1) (by omega) (by omega)
    have hx:=Rh n (shG n f) b
    rw [show evV (evF n (shG n f) (fun _=>false) b) = .agg [iV (thF n (shG n f) b),iV (ofNat (Aj (fun k=>ieq (thF n (shG n f) k) (thF n (shG n f) b)) b)),iV (shG n f b).src,iV (loF n (shG n f) b),iV 0] by
      rw [CL hl,show Aj (fun k=>ieq (thF n (shG n f) k) (thF n (shG n f) b)) b = plF n (shG n f) b from GP fun i _=>YY _ _]; rfl] at hx
    have next:=Acl M hMM a n f m2 hn e (b+1) (fun _=>.und) q (by omega) (by omega)
    rcases AiL (p:=obF (shG n f)) hl hn with ⟨c1,w1⟩ | ⟨c1,w1⟩ <;> rcases AiL (p:=mbF (shG n f)) hl hn with ⟨c2,w2⟩ | ⟨c2,w2⟩
    · have w1:wr .i64 (Ae (thF n (shG n f) b) 1) = _:=w1
      have w2:wr .i64 (Ae (loF n (shG n f) b) 1) = _:=w2
      have h3:=Aev M _ a n f b (ofNat (rN (obF (shG n f)) n b)) (ofNat (rN (mbF (shG n f)) n b)) (thF n (shG n f)) (loF n (shG n f)) (fun i=>evV (upX n (shG n f) b i)) (fun _=>-1) (ofNat (Aj (fun k=>ieq (thF n (shG n f) k) (thF n (shG n f) b)) b)) j (ofNat_lt hl) (AJ b) (decide_eq_true hl) (CS (by omega)) (CS (by omega)) c1 c2 (Ak (hi _))
      have h4:Ai (EW M) (Jp a n f) (J1 a n f b (ofNat (rN (obF (shG n f)) n b)) (ofNat (rN (mbF (shG n f)) n b)) (thF n (shG n f)) (loF n (shG n f)) (fun i=>evV (upX n (shG n f) b i)) (fun _=>-1) j) = _:=CJ (l:=Jp a n f) (Dx (Γ:=⟨CN,M,Gl⟩) (Ax hMM hMM) (Av Try.f15 0) 0 (J1 a n f b (ofNat (rN (obF (shG n f)) n b)) (ofNat (rN (mbF (shG n f)) n b)) (thF n (shG n f)) (loF n (shG n f)) (fun i=>evV (upX n (shG n f) b i)) (fun _=>-1) j)) h3
      rw [Ab h4,Aw,Aq hl (by omega),hx,El]
      rw [w1,w2]
      exact next
    · have w1:wr .i64 (Ae (thF n (shG n f) b) 1) = _:=w1
      have h3:=Aew M _ a n f b (ofNat (rN (obF (shG n f)) n b)) (ofNat (rN (mbF (shG n f)) n b)) (thF n (shG n f)) (loF n (shG n f)) (fun i=>evV (upX n (shG n f) b i)) (fun _=>-1) (ofNat (Aj (fun k=>ieq (thF n (shG n f) k) (thF n (shG n f) b)) b)) j (ofNat_lt hl) (AJ b) (decide_eq_true hl) (CS (by omega)) (CS (by omega)) c1 c2 (Ak (hi _))
      have h4:Ai (EW M) (Jp a n f) (J1 a n f b (ofNat (rN (obF (shG n f)) n b)) (ofNat (rN (mbF (shG n f)) n b)) (thF n (shG n f)) (loF n (shG n f)) (fun i=>evV (upX n (shG n f) b i)) (fun _=>-1) j) = _:=CJ (l:=Jp a n f) (Dx (Γ:=⟨CN,M,Gl⟩) (Ax hMM hMM) (Av Try.f15 0) 0 (J1 a n f b (ofNat (rN (obF (shG n f)) n b)) (ofNat (rN (mbF (shG n f)) n b)) (thF n (shG n f)) (loF n (shG n f)) (fun i=>evV (upX n (shG n f) b i)) (fun _=>-1) j)) h3
      rw [Ab h4,Aw,Aq hl (by omega),hx,El]
      rw [w1,w2]
      exact next
    · have w2:wr .i64 (Ae (loF n (shG n f) b) 1) = _:=w2
      have h3:=Aex M _ a n f b (ofNat (rN (obF (shG n f)) n b)) (ofNat (rN (mbF (shG n f)) n b)) (thF n (shG n f)) (loF n (shG n f)) (fun i=>evV (upX n (shG n f) b i)) (fun _=>-1) (ofNat (Aj (fun k=>ieq (thF n (shG n f) k) (thF n (shG n f) b)) b)) j (ofNat_lt hl) (AJ b) (decide_eq_true hl) (CS (by omega)) (CS (by omega)) c1 c2 (Ak (hi _))
      have h4:Ai (EW M) (Jp a n f) (J1 a n f b (ofNat (rN (obF (shG n f)) n b)) (ofNat (rN (mbF (shG n f)) n b)) (thF n (shG n f)) (loF n (shG n f)) (fun i=>evV (upX n (shG n f) b i)) (fun _=>-1) j) = _:=CJ (l:=Jp a n f) (Dx (Γ:=⟨CN,M,Gl⟩) (Ax hMM hMM) (Av Try.f15 0) 0 (J1 a n f b (ofNat (rN (obF (shG n f)) n b)) (ofNat (rN (mbF (shG n f)) n b)) (thF n (shG n f)) (loF n (shG n f)) (fun i=>evV (upX n (shG n f) b i)) (fun _=>-1) j)) h3
      rw [Ab h4,Aw,Aq hl (by omega),hx,El]
      rw [w1,w2]
      exact next
    · have h3:=Aey M _ a n f b (ofNat (rN (obF (shG n f)) n b)) (ofNat (rN (mbF (shG n f)) n b)) (thF n (shG n f)) (loF n (shG n f)) (fun i=>evV (upX n (shG n f) b i)) (fun _=>-1) (ofNat (Aj (fun k=>ieq (thF n (shG n f) k) (thF n (shG n f) b)) b)) j (ofNat_lt hl) (AJ b) (decide_eq_true hl) (CS (by omega)) (CS (by omega)) c1 c2 (Ak (hi _))
      have h4:Ai (EW M) (Jp a n f) (J1 a n f b (ofNat (rN (obF (shG n f)) n b)) (ofNat (rN (mbF (shG n f)) n b)) (thF n (shG n f)) (loF n (shG n f)) (fun i=>evV (upX n (shG n f) b i)) (fun _=>-1) j) = _:=CJ (l:=Jp a n f) (Dx (Γ:=⟨CN,M,Gl⟩) (Ax hMM hMM) (Av Try.f15 0) 0 (J1 a n f b (ofNat (rN (obF (shG n f)) n b)) (ofNat (rN (mbF (shG n f)) n b)) (thF n (shG n f)) (loF n (shG n f)) (fun i=>evV (upX n (shG n f) b i)) (fun _=>-1) j)) h3
      rw [Ab h4,Aw,Aq hl (by omega),hx,El]
      rw [w1,w2]
      exact next
def lnR (n:Nat) (g:Nat->E6) (b k:Nat):Nat:=if k < b then lnN (mbF g) (wrF g) n k else 0
def coR (n:Nat) (g:Nat->E6) (b k q:Nat):Int:=if k < b ∧ q < lnN (mbF g) (wrF g) n k then ofNat (coN (mbF g) (wrF g) n k q) else 0
theorem YI (n:Nat) (g:Nat->E6) (b:Nat):(fun i=>sel (AN i b) (wcN (wrF g) n (stN (mbF g) n b) (Ch (mbF g) n (stN (mbF g) n b))) (lnR n g b i)) = lnR n g (b+1):=by
  funext i
  unfold lnR
  by_cases hi:i = b
  · subst hi
    rw [show AN i i = true from Nat.beq_refl _,if_pos (Nat.lt_succ_self _)]
    rfl
  · rw [show AN i b = false from nbeq_ne hi]
    by_cases h:i < b
    · rw [if_pos h,if_pos (by omega)]; rfl
    · rw [if_neg h,if_neg (by omega)]; rfl
theorem ZB {n:Nat} {g:Nat->E6} {b:Nat} (hb:b < kkN n g):(fun i i_1=>D4 (fun i_2 i_3=>iV (coR n g b i_2 i_3)) b (fun i_2=>iV (wvF n g (stN (mbF g) n b) (Ch (mbF g) n (stN (mbF g) n b)) i_2)) i i_1) = fun i q=>iV (coR n g (b+1) i q):=by
  funext i q
  unfold D4
  rw [FG]
  have hlo:loN n g (stN (mbF g) n b) = b:=(Gz hb).2.2.1
  unfold coR wvF
  rw [hlo]
  by_cases hi:i = b
  · subst hi
    rw [show AN i i = true from Nat.beq_refl _]
    show iV _ = iV _
    by_cases hq:q < wcN (wrF g) n (stN (mbF g) n i) (Ch (mbF g) n (stN (mbF g) n i))
    · rw [if_pos hq,if_pos ⟨Nat.lt_succ_self _,hq⟩]
    · rw [if_neg hq,if_neg (fun h=>hq h.2)]
  · rw [show AN i b = false from nbeq_ne hi]
    show iV _ = iV _
    by_cases h:i < b ∧ q < lnN (mbF g) (wrF g) n i
    · rw [if_pos h,if_pos ⟨by omega,h.2⟩]
    · rw [if_neg h,if_neg (fun h'=>h ⟨by omega,h'.2⟩)]
def hpE (a:Int) (n:Nat) (f:Nat->E6) (th lo:Nat->Int) (tt:Int) (b:Nat):List Blk:=[c7Z,.row 44 6 n (fun i=>eV (shG n f i)),.row 3 1 n (fun i=>iV (th i)),.row 3 1 n (fun i=>iV (lo i)),.cells [iV a,.ref 1,.ref 5,iV tt,iV (ofNat (kkN n (shG n f))),.ref 6,.jref 7],.row 40 5 n (fun i=>evV (evF n (shG n f) (dnF n (shG n f) (loN n (shG n f)) b 0) i)),.row 3 1 n (fun i=>iV (rfF n (shG n f) (dnF n (shG n f) (loN n (shG n f)) b 0) i)),.jag (Jag.mk 25 1 b (fun _=>.und) 0 3 1 (fun _=>true) (lnR n (shG n f) b) (fun i q=>iV (coR n (shG n f) b i q)))]
def AiJ (a:Int) (n:Nat) (f:Nat->E6) (th lo:Nat->Int) (tt:Int) (b:Nat):List Blk:=[c7Z,.row 44 6 n (fun i=>eV (shG n f i)),.row 3 1 n (fun i=>iV (th i)),.row 3 1 n (fun i=>iV (lo i)),.cells [iV a,.ref 1,.ref 5,iV tt,iV (ofNat (kkN n (shG n f))),.ref 6,.und],.row 40 5 n (fun i=>evV (evF n (shG n f) (dnF n (shG n f) (loN n (shG n f)) b 0) i)),.row 3 1 n (fun i=>iV (rfF n (shG n f) (dnF n (shG n f) (loN n (shG n f)) b 0) i)),.jag (Jag.mk 25 1 b (fun _=>.und) 0 3 1 (fun _=>true) (lnR n (shG n f) b) (fun i q=>iV (coR n (shG n f) b i q)))]
def Agh (a:Int) (n:Nat) (f:Nat->E6) (tt:Int):V:=.agg [iV a,.ref 1,.ref 5,iV tt,iV (ofNat (kkN n (shG n f))),.ref 6,.jref 7]
def Yk (a:Int) (n:Nat) (f:Nat->E6) (tt:Int):List Blk:=[.dead,.cells [iV a,.ref 1,.ref 5,iV tt,iV (ofNat (kkN n (shG n f))),.ref 6,.jref 7],.cells [iV a,.ref 1,.ref 5,iV tt,iV (ofNat (kkN n (shG n f))),.ref 6,.jref 7],.dead,.dead]
theorem WV (vs:List V) (st:St):CN 59 vs st = OC tab (cxZ Gl Tm KF G6) Try.f59 vs st:=by kernel_rfl
theorem TR (q:Nat):(fun i=>sel (AN i q) true true) = fun _=>true:=by
  funext i
  cases AN i q <;> rfl
theorem Zs (a:Int) (n k kk:Nat) (g:Nat->E6) (th lo:Nat->Int) (tt:Int) (c0:Nat->V) (x0:Nat->Ev5) (r0:Nat->Int) (ln:Nat->Nat) (co:Nat->Nat->Int) (ts:List V):CI (NS a n k kk g th lo tt c0 x0 r0 ln co ts) [(11,iV 0)] = st59 a n k kk g th lo tt c0 x0 r0 ln co ts 0 0 (Gs n g x0 (ofNat k)) (-1) x0 r0 (fun _=>0) (fun i=>nth (NS a n k kk g th lo tt c0 x0 r0 ln co ts).t i):=by kernel_rfl
theorem Agm (n:Nat) (g:Nat->E6) (z:Nat):wvF n g z 0 = fun _=>0:=by
  funext q
  unfold wvF
  rw [show wcN (wrF g) n z 0 = 0 from rfl,if_neg (Nat.not_lt_zero _)]
theorem Agb (a:Int) (n:Nat) (f:Nat->E6) (hn:n <= 16) (b:Nat) (th lo:Nat->Int) (tt:Int) (ts:List V) (hb:b < kkN n (shG n f)):∃ F,EK F ∧
    (CN 59 [Agh a n f tt,nV b] ⟨ts,hpE a n f th lo tt b⟩).sem = some (Agh a n f tt,.all ⟨ts.map F,AiJ a n f th lo tt (b+1) ++ Yk a n f tt⟩):=by
  obtain ⟨hz,hst,hlo,_⟩:=Gz hb
  have hlo:loN n (shG n f) (stN (mbF (shG n f)) n b) = b:=hlo
  have hL:=DI KF G6
  have hrun:=run59 a n (stN (mbF (shG n f)) n b) (shG n f) th lo tt (fun _=>.und) (evF n (shG n f) (dnF n (shG n f) (loN n (shG n f)) b 0)) (rfF n (shG n f) (dnF n (shG n f) (loN n (shG n f)) b 0)) (lnR n (shG n f) b) (coR n (shG n f) b) hz hst hn (Ch (mbF (shG n f)) n (stN (mbF (shG n f)) n b)) 0 17 (Nat.zero_add _).symm (by have:=(ED hz hst).2.1; omega)
  rw [hlo] at hrun
  obtain ⟨F,hF,h1⟩:=hrun
  refine ⟨_,(((hF.comp (E3 11)).comp (E3 12)).comp (E3 7)),?_⟩
  have hp:(C2 KF G6 0 (body59 (onP 0 (isP (C2 KF G6) 0 (en59e a n b (kkN n (shG n f)) (shG n f) th lo tt (fun _=>.und) (evF n (shG n f) (dnF n (shG n f) (loN n (shG n f)) b 0)) (rfF n (shG n f) (dnF n (shG n f) (loN n (shG n f)) b 0)) (lnR n (shG n f) b) (coR n (shG n f) b) (ts.map F) 0 (wcN (wrF (shG n f)) n (stN (mbF (shG n f)) n b) (Ch (mbF (shG n f)) n (stN (mbF (shG n f)) n b))) 0 0 (evF n (shG n f) (dnF n (shG n f) (loN n (shG n f)) (b+1) 0)) (rfF n (shG n f) (dnF n (shG n f) (loN n (shG n f)) (b+1) 0)) (wvF n (shG n f) (stN (mbF (shG n f)) n b) (Ch (mbF (shG n f)) n (stN (mbF (shG n f)) n b))))) (en59e a n b (kkN n (shG n f)) (shG n f) th lo tt (fun _=>.und) (evF n (shG n f) (dnF n (shG n f) (loN n (shG n f)) b 0)) (rfF n (shG n f) (dnF n (shG n f) (loN n (shG n f)) b 0)) (lnR n (shG n f) b) (coR n (shG n f) b) (ts.map F) 0 (wcN (wrF (shG n f)) n (stN (mbF (shG n f)) n b) (Ch (mbF (shG n f)) n (stN (mbF (shG n f)) n b))) 0 0 (evF n (shG n f) (dnF n (shG n f) (loN n (shG n f)) (b+1) 0)) (rfF n (shG n f) (dnF n (shG n f) (loN n (shG n f)) (b+1) 0)) (wvF n (shG n f) (stN (mbF (shG n f)) n b) (Ch (mbF (shG n f)) n (stN (mbF (shG n f)) n b)))) (C2 KF G6))) (NS a n b (kkN n (shG n f)) (shG n f) th lo tt (fun _=>.und) (evF n (shG n f) (dnF n (shG n f) (loN n (shG n f)) b 0)) (rfF n (shG n f) (dnF n (shG n f) (loN n (shG n f)) b 0)) (lnR n (shG n f) b) (coR n (shG n f) b) ts)).sem = some (en59e a n b (kkN n (shG n f)) (shG n f) th lo tt (fun _=>.und) (evF n (shG n f) (dnF n (shG n f) (loN n (shG n f)) b 0)) (rfF n (shG n f) (dnF n (shG n f) (loN n (shG n f)) b 0)) (lnR n (shG n f) b) (coR n (shG n f) b) (ts.map F) 0 (wcN (wrF (shG n f)) n (stN (mbF (shG n f)) n b) (Ch (mbF (shG n f)) n (stN (mbF (shG n f)) n b))) 0 0 (evF n (shG n f) (dnF n (shG n f) (loN n (shG n f)) (b+1) 0)) (rfF n (shG n f) (dnF n (shG n f) (loN n (shG n f)) (b+1) 0)) (wvF n (shG n f) (stN (mbF (shG n f)) n b) (Ch (mbF (shG n f)) n (stN (mbF (shG n f)) n b)))):=by
    show (A3 _ _ 17 (CI (NS a n b (kkN n (shG n f)) (shG n f) th lo tt (fun _=>.und) (evF n (shG n f) (dnF n (shG n f) (loN n (shG n f)) b 0)) (rfF n (shG n f) (dnF n (shG n f) (loN n (shG n f)) b 0)) (lnR n (shG n f) b) (coR n (shG n f) b) ts) [(11,iV 0)])).sem = _
    rw [Zs,WD hb]
    have h2:=h1 (onP 0 (isP (C2 KF G6) 0 (en59e a n b (kkN n (shG n f)) (shG n f) th lo tt (fun _=>.und) (evF n (shG n f) (dnF n (shG n f) (loN n (shG n f)) b 0)) (rfF n (shG n f) (dnF n (shG n f) (loN n (shG n f)) b 0)) (lnR n (shG n f) b) (coR n (shG n f) b) (ts.map F) 0 (wcN (wrF (shG n f)) n (stN (mbF (shG n f)) n b) (Ch (mbF (shG n f)) n (stN (mbF (shG n f)) n b))) 0 0 (evF n (shG n f) (dnF n (shG n f) (loN n (shG n f)) (b+1) 0)) (rfF n (shG n f) (dnF n (shG n f) (loN n (shG n f)) (b+1) 0)) (wvF n (shG n f) (stN (mbF (shG n f)) n b) (Ch (mbF (shG n f)) n (stN (mbF (shG n f)) n b))))) (en59e a n b (kkN n (shG n f)) (shG n f) th lo tt (fun _=>.und) (evF n (shG n f) (dnF n (shG n f) (loN n (shG n f)) b 0)) (rfF n (shG n f) (dnF n (shG n f) (loN n (shG n f)) b 0)) (lnR n (shG n f) b) (coR n (shG n f) b) (ts.map F) 0 (wcN (wrF (shG n f)) n (stN (mbF (shG n f)) n b) (Ch (mbF (shG n f)) n (stN (mbF (shG n f)) n b))) 0 0 (evF n (shG n f) (dnF n (shG n f) (loN n (shG n f)) (b+1) 0)) (rfF n (shG n f) (dnF n (shG n f) (loN n (shG n f)) (b+1) 0)) (wvF n (shG n f) (stN (mbF (shG n f)) n b) (Ch (mbF (shG n f)) n (stN (mbF (shG n f)) n b)))) (C2 KF G6)) ts ts (fun i=>nth (NS a n b (kkN n (shG n f)) (shG n f) th lo tt (fun _=>.und) (evF n (shG n f) (dnF n (shG n f) (loN n (shG n f)) b 0)) (rfF n (shG n f) (dnF n (shG n f) (loN n (shG n f)) b 0)) (lnR n (shG n f) b) (coR n (shG n f) b) ts).t i)
    rw [Agm] at h2
    exact h2
  have hkn:kkN n (shG n f) <= n:=Bd _ _
  have hw:=Ajd (C2 KF G6) (isP (C2 KF G6) 0 (en59e a n b (kkN n (shG n f)) (shG n f) th lo tt (fun _=>.und) (evF n (shG n f) (dnF n (shG n f) (loN n (shG n f)) b 0)) (rfF n (shG n f) (dnF n (shG n f) (loN n (shG n f)) b 0)) (lnR n (shG n f) b) (coR n (shG n f) b) (ts.map F) 0 (wcN (wrF (shG n f)) n (stN (mbF (shG n f)) n b) (Ch (mbF (shG n f)) n (stN (mbF (shG n f)) n b))) 0 0 (evF n (shG n f) (dnF n (shG n f) (loN n (shG n f)) (b+1) 0)) (rfF n (shG n f) (dnF n (shG n f) (loN n (shG n f)) (b+1) 0)) (wvF n (shG n f) (stN (mbF (shG n f)) n b) (Ch (mbF (shG n f)) n (stN (mbF (shG n f)) n b))))) a n b (kkN n (shG n f)) (shG n f) th lo tt (fun _=>.und) (evF n (shG n f) (dnF n (shG n f) (loN n (shG n f)) b 0)) (rfF n (shG n f) (dnF n (shG n f) (loN n (shG n f)) b 0)) (lnR n (shG n f) b) (coR n (shG n f) b) ts (ts.map F) 0 (wcN (wrF (shG n f)) n (stN (mbF (shG n f)) n b) (Ch (mbF (shG n f)) n (stN (mbF (shG n f)) n b))) 0 0 (evF n (shG n f) (dnF n (shG n f) (loN n (shG n f)) (b+1) 0)) (rfF n (shG n f) (dnF n (shG n f) (loN n (shG n f)) (b+1) 0)) (wvF n (shG n f) (stN (mbF (shG n f)) n b) (Ch (mbF (shG n f)) n (stN (mbF (shG n f)) n b)))
    (by simp [AT]) (AA.2 fun i _=>AA.2 fun _ _=>rfl) (decide_eq_true (by omega)) (CS (by omega)) (Ak hp)
  have e:=Lo (τ:=tab) (G:=Gl) (fn:=Try.f59) (CLe.refl (Ao Tm)) (Ax (k:=0) hL hL) _ hw
  rw [El,TR,YI,ZB hb,Ck,Ck,Ck,List.map_map,List.map_map,List.map_map] at e
  rw [WV]
  exact Se (st:=⟨ts,hpE a n f th lo tt b⟩) (Γ:=cxZ Gl Tm KF G6) e rfl
def slV (w4 w15 w19:V) (u:Nat->V):List V:=(jsV 132 0 u [(4,w4),(15,w15),(19,w19)])
def Ri (a:Int) (n:Nat) (f:Nat->E6) (tt:Int) (b kk:Nat) (j:Nat->V):List V:=(jsV 132 0 j [(4,(.ptr 0 0)),(15,(.ptr 4 0)),(19,(nV b)),(122,(nV b)),(123,(.ptr 4 4)),(124,(nV kk)),(125,(bV (ilt (ofNat b) (ofNat kk)))),(128,(.agg [iV a,.ref 1,.ref 5,iV tt,nV kk,.ref 6,.jref 7])),(129,(nV b))])
theorem Aaa (a:Int) (n:Nat) (f:Nat->E6) (tt:Int) (b kk:Nat) (j:Nat->V):(jsV 132 0 j [(4,(.ptr 0 0)),(15,(.ptr 4 0)),(19,(nV b)),(122,(nV b)),(123,(.ptr 4 4)),(124,(nV kk)),(125,(bV (ilt (ofNat b) (ofNat kk)))),(128,(.agg [(iV a),(.ref 1),(.ref 5),(iV tt),(nV kk),(.ref 6),(.jref 7)])),(129,(nV b))]) = Ri a n f tt b kk j:=rfl
theorem Xo (a:Int) (n:Nat) (f:Nat->E6) (tt:Int) (b kk:Nat) (j:Nat->V) (F:V->V):(Ri a n f tt b kk j).map F = slV (F (.ptr 0 0)) (F (.ptr 4 0)) (F (nV b)) (fun i=>F (nth (Ri a n f tt b kk j) i)):=by kernel_rfl
theorem Yb (L:LT) (a:Int) (n:Nat) (f:Nat->E6) (hn:n <= 16) (th lo:Nat->Int) (tt:Int):∀ (e b:Nat) (j:Nat->V) (q:Nat),kkN n (shG n f) = b+e->e < q ->
    (A3 (Iv L) (Le a n f) q (MM a n f b (kkN n (shG n f)) tt th lo (evF n (shG n f) (dnF n (shG n f) (loN n (shG n f)) b 0)) (rfF n (shG n f) (dnF n (shG n f) (loN n (shG n f)) b 0)) (lnR n (shG n f) b) (coR n (shG n f) b) j)).sem = some (Hy a n f (kkN n (shG n f)) (kkN n (shG n f)) tt th lo (evF n (shG n f) (dnF n (shG n f) (loN n (shG n f)) (kkN n (shG n f)) 0)) (rfF n (shG n f) (dnF n (shG n f) (loN n (shG n f)) (kkN n (shG n f)) 0)) (lnR n (shG n f) (kkN n (shG n f))) (coR n (shG n f) (kkN n (shG n f))))
  | 0,b,j,q+1,h,_=>by
    have h:kkN n (shG n f) = b:=h
    rw [h]
    rw [show Iv L = A9 tab ⟨CN,L,Gl⟩ (Av Try.f15 4) 4 from rfl]
    exact Ab (Ahy L a n f b b tt th lo (evF n (shG n f) (dnF n (shG n f) (loN n (shG n f)) b 0)) (rfF n (shG n f) (dnF n (shG n f) (loN n (shG n f)) b 0)) (lnR n (shG n f) b) (coR n (shG n f) b) j (A8 (Nat.le_refl _)))
  | e+1,b,j,q+1,h,h2=>by
    have hl:b < kkN n (shG n f):=by omega
    have hkn:kkN n (shG n f) <= n:=Bd _ _
    have next:=fun j=>Yb L a n f hn th lo tt e (b+1) j q (by omega) (by omega)
    obtain ⟨F,hF,hc⟩:=Agb a n f hn b th lo tt (Ri a n f tt b (kkN n (shG n f)) j) hl
    have hts:(Ri a n f tt b (kkN n (shG n f)) j).map F = Ts b (fun i=>F (nth (Ri a n f tt b (kkN n (shG n f)) j) i)):=by
      rw [Xo,hF.2 0 0 (by omega),hF.2 4 0 (by omega)]
      (try unfold nV); unfold iV
      rw [hF.1]
      rfl
    rw [hts] at hc
    have hr:=fun q59=>Ahx Abf a n f b (kkN n (shG n f)) tt th lo (evF n (shG n f) (dnF n (shG n f) (loN n (shG n f)) b 0)) (rfF n (shG n f) (dnF n (shG n f) (loN n (shG n f)) b 0)) (lnR n (shG n f) b) (coR n (shG n f) b) (fun i=>F (nth (Ri a n f tt b (kkN n (shG n f)) j) i)) (evF n (shG n f) (dnF n (shG n f) (loN n (shG n f)) (b+1) 0)) (rfF n (shG n f) (dnF n (shG n f) (loN n (shG n f)) (b+1) 0)) (lnR n (shG n f) (b+1)) (coR n (shG n f) (b+1)) (fun _=>true) (fun _=>.und) (Yk a n f tt) q59 j (ofNat_lt hl)
    rw [Aaa a n f] at hr
    have hr:=hr (isC CN 59 (Agh a n f tt,.all ⟨Ts b (fun i=>F (nth (Ri a n f tt b (kkN n (shG n f)) j) i)),AiJ a n f th lo tt (b+1) ++ Yk a n f tt⟩)) (Sd hc)
    have hr':=CJ (f':=Iv L) (l:=Le a n f) (Lq (τ:=tab) (G:=Gl) (Yw (CLe.refl CN)) (Vc L) (Av Try.f15 4) 4 (MM a n f b (kkN n (shG n f)) tt th lo (evF n (shG n f) (dnF n (shG n f) (loN n (shG n f)) b 0)) (rfF n (shG n f) (dnF n (shG n f) (loN n (shG n f)) b 0)) (lnR n (shG n f) b) (coR n (shG n f) b) j)) hr
    rw [Ab hr',Aw,Aq hl (by omega)]
    exact next (fun _=>.und)
theorem Qu {L N:LT} (hL:LLe L L) (hN:LLe N N) (k:Nat) (r:Ex × St):LLe (onP k (isP L k r) r N) (onP k (isP L k r) r N):=fun id f f' st hf r' hr=>by
  unfold onP at hr ⊢
  cases hk:Nat.beq id k with
  | true =>
    rw [hk] at hr
    obtain ⟨h1,h2⟩:=Ag hr
    unfold isP at h1
    have h1:=@of_decide_eq_true _ (Classical.propDecidable _) h1
    have h3:isP L k r f' st = true:=Ak (hL k f f' st hf _ h1)
    show sel (isP L k r f' st) _ _ = _
    rw [h3]
    exact h2
  | false =>
    rw [hk] at hr
    exact hN id f f' st hf _ hr
def Agk:List (Nat × List (Nat × V)):=[(0,[(5,evV ⟨0,0,0,0,0⟩),(6,iV (-1))]),(4,[(7,iV 0)])]
def Acv (a:Int) (n:Nat) (f:Nat->E6):List (Nat × Lp):=[(0,Jp a n f),(2,Lf a n f),(4,Le a n f)]
noncomputable def WN (a:Int) (n:Nat) (f:Nat->E6):Cx:=⟨CN,C2 Agk (Acv a n f),Gl⟩
theorem AfR (a:Int) (n:Nat) (f:Nat->E6):CI (V4 a n f) [(5,evV ⟨0,0,0,0,0⟩),(6,iV (-1))] = J1 a n f 0 0 0 (thF n (shG n f)) (loF n (shG n f)) (fun _=>evV ⟨0,0,0,0,0⟩) (fun _=>-1) (fun i=>nth (V4 a n f).t i):=by kernel_rfl
theorem Zi (a:Int) (n:Nat) (f:Nat->E6) (tt:Int) (kk:Nat) (th lo:Nat->Int) (x:Nat->Ev5) (r:Nat->Int):CI (My a n f tt kk th lo x r) [(7,iV 0)] = MM a n f 0 kk tt th lo x r (fun _=>0) (fun _ _=>0) (fun i=>nth (My a n f tt kk th lo x r).t i):=by kernel_rfl
theorem Ai9 (n:Nat) (g:Nat->E6):lnR n g 0 = fun _=>0:=by funext i; simp [lnR]
theorem AiV (n:Nat) (g:Nat->E6):coR n g 0 = fun _ _=>0:=by funext i q; simp [coR]
theorem Ac5 (n:Nat) (g:Nat->E6):dnF n g (loN n g) 0 0 = fun _=>false:=by
  funext j
  unfold dnF
  rw [Z0]
  simp
theorem Xk (n:Nat) (g:Nat->E6):upX n g n = evF n g (dnF n g (loN n g) 0 0):=by
  rw [Ac5,U2,Z1]
def Aim (n:Nat) (g:Nat->E6):List Blk:=[.row 44 6 n (fun i=>eV (g i)),.row 40 5 n (fun i=>evV (evF n g (dnF n g (loN n g) (kkN n g) 0) i)),.row 3 1 n (fun i=>iV (rfF n g (dnF n g (loN n g) (kkN n g) 0) i)),
  .jag ⟨25,1,kkN n g,fun _=>.und,0,3,1,fun _=>true,lnR n g (kkN n g),fun k i=>iV (coR n g (kkN n g) k i)⟩]
theorem AaP {n:Nat} {g:Nat->E6} (hk:0 < kkN n g):AB (Aim n g) (Tv n g):=by
  have hd:∀ i,i < n->dnF n g (loN n g) (kkN n g) 0 i = true:=fun i hi=>by
    unfold dnF
    rw [decide_eq_true hi,SI]
    · rfl
    · exact RQ hi hk
  refine .cons (fun _ _=>rfl) (.cons (fun i hi=>?_) (.cons (fun i hi=>?_) (.consB (.jag (fun _ _=>.inr rfl) (fun _ _=>rfl) (fun k hk'=>?_) (fun k hk' q hq=>?_)) (.refl []))))
  · rw [CL hi,CL hi,hd i hi]
  · unfold rfF
    rw [hd i hi]
  · have hk':k < kkN n g:=hk'
    show lnN _ _ n k = lnR n g (kkN n g) k
    unfold lnR
    rw [if_pos hk']
  · have hk':k < kkN n g:=hk'
    have hq:q < lnR n g (kkN n g) k:=hq
    unfold lnR at hq
    rw [if_pos hk'] at hq
    show iV _ = iV _
    unfold coR
    rw [if_pos ⟨hk',hq⟩]
theorem AdB {a:Int} {n:Nat} {f:Nat->E6} (h8:AL n = true) (hc:ieq (B6 a n f) 0 = true) :
    (A1 (Al tab (WN a n f) Try.f15 [iV a,A2 n f] [])).sem = some (.tup [Tu a n (shG n f),iV 0,iV 0],Aim n (shG n f)):=by
  have hy:=Es hc
  have hlo:=hy.lo
  have hhi:=hy.hi
  have hL:=DI Agk (Acv a n f)
  have hg:=Fo hy
  have hko:rN (obF (shG n f)) n n = ttN n (shG n f):=PZ hg.outer
  have hkm:rN (mbF (shG n f)) n n = kkN n (shG n f):=PZ hg.moves
  have hkl:kkN n (shG n f) <= n:=Bd _ _
  unfold WN
  have hQ:=Qu hL (Qu hL hL 4 (Hy a n f (kkN n (shG n f)) (kkN n (shG n f)) (ofNat (ttN n (shG n f))) (thF n (shG n f)) (loF n (shG n f)) (evF n (shG n f) (dnF n (shG n f) (loN n (shG n f)) (kkN n (shG n f)) 0)) (rfF n (shG n f) (dnF n (shG n f) (loN n (shG n f)) (kkN n (shG n f)) 0)) (lnR n (shG n f) (kkN n (shG n f))) (coR n (shG n f) (kkN n (shG n f))))) 0 (Oe a n f n (ofNat (ttN n (shG n f))) (ofNat (kkN n (shG n f))) (thF n (shG n f)) (loF n (shG n f)) (fun i=>evV (upX n (shG n f) n i)) (fun _=>-1))
  refine A6 (Ax (Ax hL hL) hL) _ (AjF _ _ _ a n f (ofNat (ttN n (shG n f))) (kkN n (shG n f)) (thF n (shG n f)) (loF n (shG n f)) (upX n (shG n f) n) (fun _=>-1)
    (evF n (shG n f) (dnF n (shG n f) (loN n (shG n f)) (kkN n (shG n f)) 0)) (rfF n (shG n f) (dnF n (shG n f) (loN n (shG n f)) (kkN n (shG n f)) 0)) (lnR n (shG n f) (kkN n (shG n f))) (coR n (shG n f) (kkN n (shG n f))) h8 hc (SK.2 ⟨a,hy⟩) hg.may BY (Ak ?_) (Ak ?_))
  · show (A3 _ (Jp a n f) (n+1) (CI _ [(5,evV ⟨0,0,0,0,0⟩),(6,iV (-1))])).sem = _
    rw [AfR]
    have h:=fun M hM m2 j=>Acl M hM a n f m2 hhi n 0 j (n+1) (by omega) (by omega)
    rw [AbW,hko,hkm] at h
    exact h _ hQ (fun g st=>rfl) _
  · show (A3 _ (Le a n f) 17 (CI _ [(7,iV 0)])).sem = _
    rw [Zi]
    have h:=fun L j=>Yb L a n f hhi (thF n (shG n f)) (loF n (shG n f)) (ofNat (ttN n (shG n f))) (kkN n (shG n f)) 0 j 17 (by omega) (by omega)
    rw [<- Xk,Ai9,AiV,show rfF n (shG n f) (dnF n (shG n f) (loN n (shG n f)) 0 0) = fun _=>-1 by rw [Ac5]; rfl] at h
    exact h _ _
theorem p15:AD Try.prog Gl 15 ofT:=by
  refine A5 AO AP Try.func15 (by kernel_rfl) (by kernel_rfl) fun vs v h' h=>?_
  unfold ofT at h
  split at h
  · rename_i a u
    obtain ⟨n,f,ha,h1⟩:=BU h
    obtain ⟨h8,hq⟩:=Ag h1
    have hA:BA [iV a,u] [iV a,A2 n f]:=fun S w cs hv=>by
      obtain ⟨c,l,rfl,q1,d,l',rfl,q2,q3⟩:=hv
      exact ⟨c,_,rfl,q1,d,l',rfl,ha S w d q2,q3⟩
    have hx:Bm Try.prog (WN a n f).base ∧ BX (WN a n f):=⟨WU,RP rfl⟩
    cases hc:ieq (B6 a n f) 0 with
    | true =>
      rw [hc] at hq
      have:=Ac hq
      simp only [Prod.mk.injEq] at this
      obtain ⟨rfl,rfl⟩:=this
      have hg:=Fo (Es hc)
      have hm:=hg.moves
      exact ⟨_,WN a n f,_,hA,rfl,hx.1,hx.2,AdB h8 hc,AaP (by show 0 < Aj (fun k=>Au (shG n f k)) n; omega)⟩
    | false =>
      rw [hc] at hq
      have:=Ac hq
      simp only [Prod.mk.injEq] at this
      obtain ⟨rfl,rfl⟩:=this
      exact ⟨_,WN a n f,_,hA,rfl,hx.1,hx.2,AjG _ a n f h8 hc,AB.refl _⟩
  · cases h
end Go.Proofs.Ytjhnfomefcngfaa.Sh
