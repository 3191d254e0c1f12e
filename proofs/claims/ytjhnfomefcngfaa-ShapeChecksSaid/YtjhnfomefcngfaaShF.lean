/-
  Layer 7: the document's shape of a cycle. No conditions.
-/
import Derived.Test.YtjhnfomefcngfaaShE
namespace Go.Proofs.Ytjhnfomefcngfaa.Sh
open Go.Sy Ed
open Int (ofNat)
set_option maxHeartbeats 1000000
set_option maxRecDepth 4000
def AaG:List V->T (V × List Blk):=Ha fun n f=>.br (AL n) (.br (BW n f) (.leaf (.tup [.ref 0,iV 0],[.row 3 1 n fun k=>iV (A0 (fun k=>Ay (f k)) n k)])) .fail) .fail
def AaF:List V->T (V × List Blk):=Ha fun n f=>.br (AL n) (.br (BW n f) (.leaf (.tup [.ref 0,iV 0],[.row 3 1 n fun k=>iV (A0 (fun k=>Au (f k)) n k)])) .fail) .fail
theorem p57:AB Try.prog Gl 57 AaG:=AB.congr Ed.p53 fun vs r h=>by
  obtain ⟨v,rfl⟩:∃ v,vs = [v]:=by
    unfold AaG Ha at h
    split at h
    · exact ⟨_,rfl⟩
    · cases h
  unfold AaG Ha at h
  unfold Kg Ha
  dsimp only at h ⊢
  unfold apL at h ⊢
  split at h
  · rename_i n g hg
    obtain ⟨h1,h⟩:=Ah h
    dsimp only at h
    obtain ⟨h2,h⟩:=Ah h
    obtain ⟨h3,h⟩:=Ah h
    rw [h1]
    dsimp only
    rw [h2,h3]
    exact h
  · cases h
theorem p58:AB Try.prog Gl 58 AaF:=AB.congr Ed.p54 fun vs r h=>by
  obtain ⟨v,rfl⟩:∃ v,vs = [v]:=by
    unfold AaF Ha at h
    split at h
    · exact ⟨_,rfl⟩
    · cases h
  unfold AaF Ha at h
  unfold Kg Ha
  dsimp only at h ⊢
  unfold apL at h ⊢
  split at h
  · rename_i n g hg
    obtain ⟨h1,h⟩:=Ah h
    dsimp only at h
    obtain ⟨h2,h⟩:=Ah h
    obtain ⟨h3,h⟩:=Ah h
    rw [h1]
    dsimp only
    rw [h2,h3]
    exact h
  · cases h
noncomputable def Ahb:List (Nat × (List V->T (V × List Blk))):=[(19,WH),(56,Zi),(57,AaG),(58,AaF)]
theorem Aal:AC Try.prog Gl Ahb:=.cons p49 <| .cons p56 <| .cons p57 <| .cons p58 .nil
def GF:List (Nat × Lp):=[(0,⟨(bmK 79 0 [1,2,4,5,6,7,8,9]),12,bmK 79 0 [2,4,5],12,17⟩)]
def KH:List (Nat × List (Nat × V)):=[(0,[(11,iV 0)])]
noncomputable def CY:FuncId->List V->St->T (V × Res):=SL [(59,OB tab (cxZ Gl Tj KH GF) Try.f59)] (Ao Ahb)
theorem WI:Bn Try.prog ⟨CY,Gl⟩:=SK AR (.cons rfl AQ (JL Uy KH GF).1 (JL Uy KH GF).2 Try.func59 (by kernel_rfl) (by kernel_rfl) .nil) (I2 rfl Aal)
theorem AjL (L:LT) (a:Int) (n:Nat) (f:Nat->E6) (h0:AL n = true) (h1:ieq (BY a n f) 0 = false):(As (Aj tab ⟨CY,L,Gl⟩ Try.f15 [iV a,.sl 6 n fun i=>eV (f i)] [])).sem = some ((.tup [.agg [iV 0,.ref 0,.ref 1,iV 0,iV 0,.ref 2,.jref 3],iV (BY a n f),iV (Oh a n f)]),[.row 44 6 0 (fun _=>.und),.row 40 5 0 (fun _=>.und),r3Z,jgZ]):=Aa [true,true,true] [Ai n (fun _=>true),AL n,Am (ieq (BY a n f) 0)] (by kernel_rfl) (by simp only [h0,h1,Ar] <;> rfl)
def Jt (a:Int) (n:Nat) (f:Nat->E6):Lp:=⟨(bmK 132 0 [4,5,6,9,10,11,13,15,16]),8,bmK 132 0 [4,5,6,15],8,n+1⟩
def J7 (a:Int) (n:Nat) (f:Nat->E6) (b:Nat) (tt kk:Int) (th lo:Nat->Int) (x:Nat->V) (r:Nat->Int) (j:Nat->V):St:=⟨(jsV 132 0 j [(4,.ptr 0 0),(5,iV 0),(6,iV 0),(9,.ref 1),(10,nV n),(11,.ref 2),(13,.ref 3),(15,.ptr 4 0),(16,nV b)]),[c7Z,.row 44 6 n (fun i=>eV (shG n f i)),.row 3 1 n (fun k=>iV (th k)),.row 3 1 n (fun k=>iV (lo k)),.cells [iV a,.ref 1,.ref 5,iV tt,iV kk,.ref 6,.jref 7],.row 40 5 b x,.row 3 1 b (fun i=>iV (r i)),jgZ]⟩
def Oc (a:Int) (n:Nat) (f:Nat->E6) (b:Nat) (tt kk:Int) (th lo:Nat->Int) (x:Nat->V) (r:Nat->Int):Ex × St:=(.ex 0,⟨(jsV 132 0 (fun _=>.und) [(4,.ptr 0 0),(5,iV 0),(6,iV 0),(15,.ptr 4 0)]),[c7Z,.row 44 6 n (fun i=>eV (shG n f i)),.row 3 1 n (fun k=>iV (th k)),.row 3 1 n (fun k=>iV (lo k)),.cells [iV a,.ref 1,.ref 5,iV tt,iV kk,.ref 6,.jref 7],.row 40 5 b x,.row 3 1 b (fun i=>iV (r i)),jgZ]⟩)
noncomputable def Fa (L:LT):St->T (Ex × St):=fun st=>AE tab ⟨CY,L,Gl⟩ (Az Try.f15 0) 0 st
theorem Ah9 (L:LT) (a:Int) (n:Nat) (f:Nat->E6) (b:Nat) (tt kk:Int) (th lo:Nat->Int) (x:Nat->V) (r:Nat->Int)  (j:Nat->V) (h0:ilt (ofNat b) (ofNat n) = false):Al (Fa L) (Jt a n f) (J7 a n f b tt kk th lo x r j) = some ((.ex 0),⟨(jsV 132 0 (fun _=>.und) [(4,(.ptr 0 0)),(5,(iV 0)),(6,(iV 0)),(15,(.ptr 4 0))]),[c7Z,.row 44 6 n (fun i=>eV (shG n f i)),.row 3 1 n (fun k=>iV (th k)),.row 3 1 n (fun k=>iV (lo k)),.cells [iV a,.ref 1,.ref 5,iV tt,iV kk,.ref 6,.jref 7],.row 40 5 b x,.row 3 1 b (fun i=>iV (r i)),jgZ]⟩):=Aa [false] [ilt (ofNat b) (ofNat n)] (by kernel_rfl) (by simp only [h0] <;> rfl)
def Vs (a:Int) (n:Nat) (f:Nat->E6) :St:=⟨(jsV 132 0 (fun _=>A8) [(0,(iV a)),(1,(.sl 6 n (fun i=>eV (f i)))),(4,(.ptr 0 0)),(5,(iV 0)),(6,(iV 0)),(7,(iV (BY a n f))),(8,(iV (Oh a n f))),(9,(.ref 1)),(10,(nV n)),(11,(.ref 2)),(12,(iV 0)),(13,(.ref 3)),(14,(iV 0)),(15,(.ptr 4 0)),(16,(iV 0)),(20,(.tup [iV (BY a n f),iV (Oh a n f)])),(21,(iV a)),(22,(.sl 6 n (fun i=>eV (f i)))),(23,(.tup [iV (BY a n f),iV (Oh a n f)])),(24,(iV (BY a n f))),(25,(iV (Oh a n f))),(26,(iV (BY a n f))),(27,(bV (Am (ieq (BY a n f) 0)))),(31,(.sl 6 n (fun i=>eV (f i)))),(32,(.ref 1)),(33,(.ref 1)),(34,(nV n)),(35,(.tup [.ref 2,iV 0])),(36,(.ref 1)),(37,(.tup [.ref 2,iV 0])),(38,(.ref 2)),(39,(iV 0)),(40,(.tup [.ref 3,iV 0])),(41,(.ref 1)),(42,(.tup [.ref 3,iV 0])),(43,(.ref 3)),(44,(iV 0)),(45,(iV a)),(46,(.ref 1)),(47,(.agg [iV a,.ref 1,.nilS,iV 0,iV 0,.nilS,.nilS]))]),[c7Z,.row 44 6 n (fun i=>eV (shG n f i)),.row 3 1 n (fun k=>iV (A0 (fun k=>Ay (shG n f k)) n k)),.row 3 1 n (fun k=>iV (A0 (fun k=>Au (shG n f k)) n k)),.cells [iV a,.ref 1,.ref 5,iV 0,iV 0,.ref 6,.jref 7],.row 40 5 0 (fun _=>.und),r3Z,jgZ]⟩
def Ef (a:Int) (n:Nat) (f:Nat->E6) (b:Nat) (tt kk:Int) (th lo:Nat->Int) (x:Nat->V) (r:Nat->Int) (j:Nat->V):St:=⟨(jsV 132 0 j [(4,(.ptr 0 0)),(5,(iV 0)),(6,(iV 0)),(9,(.ref 1)),(10,(nV n)),(11,(.ref 2)),(13,(.ref 3)),(15,(.ptr 4 0)),(16,(nV b)),(17,(.ptr 8 0)),(18,(iV 0)),(48,(nV b)),(49,(nV n)),(50,(bV (ilt (ofNat b) (ofNat n)))),(53,(.ref 2)),(54,(nV b)),(55,(.ept 2 1 b 0)),(56,(iV (th b))),(57,(.ref 1)),(58,(nV b)),(59,(.ept 1 6 b 0)),(60,(.ept 1 6 b 3)),(61,(iV ((shG n f b)).src)),(62,(.ref 3)),(63,(nV b)),(64,(.ept 3 1 b 0)),(65,(iV (lo b))),(66,(.agg [iV (th b),iV 0,iV ((shG n f b)).src,iV (lo b),iV 0]))]),[c7Z,.row 44 6 n (fun i=>eV (shG n f i)),.row 3 1 n (fun k=>iV (th k)),.row 3 1 n (fun k=>iV (lo k)),.cells [iV a,.ref 1,.ref 5,iV tt,iV kk,.ref 6,.jref 7],.row 40 5 b x,.row 3 1 b (fun i=>iV (r i)),jgZ,.cells [iV (th b),iV 0,iV ((shG n f b)).src,iV (lo b),iV 0]]⟩
def Lj (a:Int) (n:Nat) (f:Nat->E6):Lp:=⟨(bmK 132 0 [4,5,6,9,10,11,13,15,16,17,18]),9,bmK 132 0 [4,5,6,9,10,11,13,15,16,17],9,n+1⟩
def MT (a:Int) (n:Nat) (f:Nat->E6) (b:Nat) (tt kk:Int) (th lo:Nat->Int) (x:Nat->V) (r:Nat->Int) (p:Int) (c:Nat) (j:Nat->V):St:=⟨(jsV 132 0 j [(4,.ptr 0 0),(5,iV 0),(6,iV 0),(9,.ref 1),(10,nV n),(11,.ref 2),(13,.ref 3),(15,.ptr 4 0),(16,nV b),(17,.ptr 8 0),(18,nV c)]),[c7Z,.row 44 6 n (fun i=>eV (shG n f i)),.row 3 1 n (fun k=>iV (th k)),.row 3 1 n (fun k=>iV (lo k)),.cells [iV a,.ref 1,.ref 5,iV tt,iV kk,.ref 6,.jref 7],.row 40 5 b x,.row 3 1 b (fun i=>iV (r i)),jgZ,.cells [iV (th b),iV p,iV ((shG n f b)).src,iV (lo b),iV 0]]⟩
def Db (a:Int) (n:Nat) (f:Nat->E6) (b:Nat) (tt kk:Int) (th lo:Nat->Int) (x:Nat->V) (r:Nat->Int) (p:Int) (c:Nat):Ex × St:=(.ex 2,⟨(jsV 132 0 (fun _=>.und) [(4,.ptr 0 0),(5,iV 0),(6,iV 0),(9,.ref 1),(10,nV n),(11,.ref 2),(13,.ref 3),(15,.ptr 4 0),(16,nV b),(17,.ptr 8 0)]),[c7Z,.row 44 6 n (fun i=>eV (shG n f i)),.row 3 1 n (fun k=>iV (th k)),.row 3 1 n (fun k=>iV (lo k)),.cells [iV a,.ref 1,.ref 5,iV tt,iV kk,.ref 6,.jref 7],.row 40 5 b x,.row 3 1 b (fun i=>iV (r i)),jgZ,.cells [iV (th b),iV p,iV ((shG n f b)).src,iV (lo b),iV 0]]⟩)
noncomputable def CK (L:LT):St->T (Ex × St):=fun st=>AE tab ⟨CY,L,Gl⟩ (Az Try.f15 2) 2 st
section
variable (L:LT) (a:Int) (n:Nat) (f:Nat->E6) (b:Nat) (tt kk:Int) (th lo:Nat->Int) (x:Nat->V) (r:Nat->Int) (p:Int) (c:Nat)  (j:Nat->V)
include L a n f b tt kk th lo x r p c j
theorem Ah3 (h0:ilt (ofNat c) (ofNat b) = false):Al (CK L) (Lj a n f) (MT a n f b tt kk th lo x r p c j) = some ((.ex 2),⟨(jsV 132 0 (fun _=>.und) [(4,(.ptr 0 0)),(5,(iV 0)),(6,(iV 0)),(9,(.ref 1)),(10,(nV n)),(11,(.ref 2)),(13,(.ref 3)),(15,(.ptr 4 0)),(16,(nV b)),(17,(.ptr 8 0))]),[c7Z,.row 44 6 n (fun i=>eV (shG n f i)),.row 3 1 n (fun k=>iV (th k)),.row 3 1 n (fun k=>iV (lo k)),.cells [iV a,.ref 1,.ref 5,iV tt,iV kk,.ref 6,.jref 7],.row 40 5 b x,.row 3 1 b (fun i=>iV (r i)),jgZ,.cells [iV (th b),iV p,iV ((shG n f b)).src,iV (lo b),iV 0]]⟩):=Aa [false] [ilt (ofNat c) (ofNat b)] (by kernel_rfl) (by simp only [h0] <;> rfl)
theorem Ah2 (h0:ilt (ofNat c) (ofNat b) = true) (h19:Ag (ile 0 (ofNat c)) (ilt (ofNat c) (ofNat n)) = true) (h1:nlt c n = true) (h21:Ag (ile 0 (ofNat b)) (ilt (ofNat b) (ofNat n)) = true) (h2:nlt b n = true) (h3:ieq (th c) (th b) = false):Al (CK L) (Lj a n f) (MT a n f b tt kk th lo x r p c j) = some (.nm,⟨(jsV 132 0 (fun _=>.und) [(4,(.ptr 0 0)),(5,(iV 0)),(6,(iV 0)),(9,(.ref 1)),(10,(nV n)),(11,(.ref 2)),(13,(.ref 3)),(15,(.ptr 4 0)),(16,(nV b)),(17,(.ptr 8 0)),(18,(iV (wr .i64 (Af (ofNat c) 1))))]),[c7Z,.row 44 6 n (fun i=>eV (shG n f i)),.row 3 1 n (fun k=>iV (th k)),.row 3 1 n (fun k=>iV (lo k)),.cells [iV a,.ref 1,.ref 5,iV tt,iV kk,.ref 6,.jref 7],.row 40 5 b x,.row 3 1 b (fun i=>iV (r i)),jgZ,.cells [iV (th b),iV p,iV ((shG n f b)).src,iV (lo b),iV 0]]⟩):=Aa (bbK 6 31) [ilt (ofNat c) (ofNat b),Ag (ile 0 (ofNat c)) (ilt (ofNat c) (ofNat n)),nlt c n,Ag (ile 0 (ofNat b)) (ilt (ofNat b) (ofNat n)),nlt b n,ieq (th c) (th b)] (by kernel_rfl) (by simp only [h19,h21] <;> simp only [*] <;> rfl)
theorem Ah1 (h0:ilt (ofNat c) (ofNat b) = true) (h19:Ag (ile 0 (ofNat c)) (ilt (ofNat c) (ofNat n)) = true) (h1:nlt c n = true) (h21:Ag (ile 0 (ofNat b)) (ilt (ofNat b) (ofNat n)) = true) (h2:nlt b n = true) (h3:ieq (th c) (th b) = true):Al (CK L) (Lj a n f) (MT a n f b tt kk th lo x r p c j) = some (.nm,⟨(jsV 132 0 (fun _=>.und) [(4,(.ptr 0 0)),(5,(iV 0)),(6,(iV 0)),(9,(.ref 1)),(10,(nV n)),(11,(.ref 2)),(13,(.ref 3)),(15,(.ptr 4 0)),(16,(nV b)),(17,(.ptr 8 0)),(18,(iV (wr .i64 (Af (ofNat c) 1))))]),[c7Z,.row 44 6 n (fun i=>eV (shG n f i)),.row 3 1 n (fun k=>iV (th k)),.row 3 1 n (fun k=>iV (lo k)),.cells [iV a,.ref 1,.ref 5,iV tt,iV kk,.ref 6,.jref 7],.row 40 5 b x,.row 3 1 b (fun i=>iV (r i)),jgZ,.cells [iV (th b),iV (wr .i64 (Af p 1)),iV ((shG n f b)).src,iV (lo b),iV 0]]⟩):=Aa (bbK 6 63) [ilt (ofNat c) (ofNat b),Ag (ile 0 (ofNat c)) (ilt (ofNat c) (ofNat n)),nlt c n,Ag (ile 0 (ofNat b)) (ilt (ofNat b) (ofNat n)),nlt b n,ieq (th c) (th b)] (by kernel_rfl) (by simp only [h19,h21] <;> simp only [*] <;> rfl)
end
section
variable (L:LT) (p2:PT) (a:Int) (n:Nat) (f:Nat->E6) (b:Nat) (tt kk:Int) (th lo:Nat->Int) (x:Nat->V) (r:Nat->Int) (p:Int) (j:Nat->V)
include L p2 a n f b tt kk th lo x r p j
theorem Aem (h0:ilt (ofNat b) (ofNat n) = true) (h17:ile 0 (ofNat b) = true) (h18:nlt b n = true) (h19:AN b 1 40 = true) (h20:AN b 1 8 = true) (h1:ile tt (th b) = true) (h2:ile kk (lo b) = true) (hp2:p2 (CK (onP 2 p2 (Db a n f b tt kk th lo x r p b) L)) (Ef a n f b tt kk th lo x r j) = true):Al (Fa (onP 2 p2 (Db a n f b tt kk th lo x r p b) L)) (Jt a n f) (J7 a n f b tt kk th lo x r j) = some (.nm,⟨(jsV 132 0 (fun _=>.und) [(4,(.ptr 0 0)),(5,(iV 0)),(6,(iV 0)),(9,(.ref 1)),(10,(nV n)),(11,(.ref 2)),(13,(.ref 3)),(15,(.ptr 4 0)),(16,(iV (wr .i64 (Af (ofNat b) 1))))]),[c7Z,.row 44 6 n (fun i=>eV (shG n f i)),.row 3 1 n (fun k=>iV (th k)),.row 3 1 n (fun k=>iV (lo k)),.cells [iV a,.ref 1,.ref 5,iV (wr .i64 (Af (th b) 1)),iV (wr .i64 (Af (lo b) 1)),.ref 6,.jref 7],.row 40 5 (Bj b 1) (AO b x (.agg [iV (th b),iV p,iV ((shG n f b)).src,iV (lo b),iV 0])),.row 3 1 (Bj b 1) (AO b (fun i=>iV (r i)) (iV (-1))),jgZ]⟩):=Aa (bbK 62 4611686018427387903) ((fun c0 c1 c2 c3 c4 c5 c6 c7=>[ilt (ofNat b) (ofNat n),c0,c1,c0,c1,c0,c1,c2,c0,c3,c1,c4,c2,c0,c3,c3,c1,c5,c2,c0,c3,c1,c6,c4,c7,c5,c6,c7,c2,c0,c3,c1,c4,c2,c0,c3,c3,c1,c5,c2,c0,c3,c1,c6,c4,c7,c5,c6,c7,p2 (CK (onP 2 p2 (Db a n f b tt kk th lo x r p b) L)) (Ef a n f b tt kk th lo x r j),AN b 1 40,AN b 1 8,c0,c1,ile tt (th b),c0,c1,c0,c1,ile kk (lo b),c0,c1]) (Ag (ile 0 (ofNat b)) (ilt (ofNat b) (ofNat n))) (nlt b n) (ieq (ofNat b) (ofNat b)) (AV b b) (ieq (th b) (th b)) (ieq ((shG n f b)).src ((shG n f b)).src) (ieq (lo b) (lo b)) (ieq 0 0)) (by kernel_rfl) (by simp only [hp2] <;> simp only [*,BQ,CF] <;> rfl)
theorem Aen (h0:ilt (ofNat b) (ofNat n) = true) (h17:ile 0 (ofNat b) = true) (h18:nlt b n = true) (h19:AN b 1 40 = true) (h20:AN b 1 8 = true) (h1:ile tt (th b) = true) (h2:ile kk (lo b) = false) (hp2:p2 (CK (onP 2 p2 (Db a n f b tt kk th lo x r p b) L)) (Ef a n f b tt kk th lo x r j) = true):Al (Fa (onP 2 p2 (Db a n f b tt kk th lo x r p b) L)) (Jt a n f) (J7 a n f b tt kk th lo x r j) = some (.nm,⟨(jsV 132 0 (fun _=>.und) [(4,(.ptr 0 0)),(5,(iV 0)),(6,(iV 0)),(9,(.ref 1)),(10,(nV n)),(11,(.ref 2)),(13,(.ref 3)),(15,(.ptr 4 0)),(16,(iV (wr .i64 (Af (ofNat b) 1))))]),[c7Z,.row 44 6 n (fun i=>eV (shG n f i)),.row 3 1 n (fun k=>iV (th k)),.row 3 1 n (fun k=>iV (lo k)),.cells [iV a,.ref 1,.ref 5,iV (wr .i64 (Af (th b) 1)),iV kk,.ref 6,.jref 7],.row 40 5 (Bj b 1) (AO b x (.agg [iV (th b),iV p,iV ((shG n f b)).src,iV (lo b),iV 0])),.row 3 1 (Bj b 1) (AO b (fun i=>iV (r i)) (iV (-1))),jgZ]⟩):=Aa (bbK 60 576460752303423487) ((fun c0 c1 c2 c3 c4 c5 c6 c7=>[ilt (ofNat b) (ofNat n),c0,c1,c0,c1,c0,c1,c2,c0,c3,c1,c4,c2,c0,c3,c3,c1,c5,c2,c0,c3,c1,c6,c4,c7,c5,c6,c7,c2,c0,c3,c1,c4,c2,c0,c3,c3,c1,c5,c2,c0,c3,c1,c6,c4,c7,c5,c6,c7,p2 (CK (onP 2 p2 (Db a n f b tt kk th lo x r p b) L)) (Ef a n f b tt kk th lo x r j),AN b 1 40,AN b 1 8,c0,c1,ile tt (th b),c0,c1,c0,c1,ile kk (lo b)]) (Ag (ile 0 (ofNat b)) (ilt (ofNat b) (ofNat n))) (nlt b n) (ieq (ofNat b) (ofNat b)) (AV b b) (ieq (th b) (th b)) (ieq ((shG n f b)).src ((shG n f b)).src) (ieq (lo b) (lo b)) (ieq 0 0)) (by kernel_rfl) (by simp only [hp2] <;> simp only [*,BQ,CF] <;> rfl)
theorem Aeo (h0:ilt (ofNat b) (ofNat n) = true) (h17:ile 0 (ofNat b) = true) (h18:nlt b n = true) (h19:AN b 1 40 = true) (h20:AN b 1 8 = true) (h1:ile tt (th b) = false) (h2:ile kk (lo b) = true) (hp2:p2 (CK (onP 2 p2 (Db a n f b tt kk th lo x r p b) L)) (Ef a n f b tt kk th lo x r j) = true):Al (Fa (onP 2 p2 (Db a n f b tt kk th lo x r p b) L)) (Jt a n f) (J7 a n f b tt kk th lo x r j) = some (.nm,⟨(jsV 132 0 (fun _=>.und) [(4,(.ptr 0 0)),(5,(iV 0)),(6,(iV 0)),(9,(.ref 1)),(10,(nV n)),(11,(.ref 2)),(13,(.ref 3)),(15,(.ptr 4 0)),(16,(iV (wr .i64 (Af (ofNat b) 1))))]),[c7Z,.row 44 6 n (fun i=>eV (shG n f i)),.row 3 1 n (fun k=>iV (th k)),.row 3 1 n (fun k=>iV (lo k)),.cells [iV a,.ref 1,.ref 5,iV tt,iV (wr .i64 (Af (lo b) 1)),.ref 6,.jref 7],.row 40 5 (Bj b 1) (AO b x (.agg [iV (th b),iV p,iV ((shG n f b)).src,iV (lo b),iV 0])),.row 3 1 (Bj b 1) (AO b (fun i=>iV (r i)) (iV (-1))),jgZ]⟩):=Aa (bbK 60 1134907106097364991) ((fun c0 c1 c2 c3 c4 c5 c6 c7=>[ilt (ofNat b) (ofNat n),c0,c1,c0,c1,c0,c1,c2,c0,c3,c1,c4,c2,c0,c3,c3,c1,c5,c2,c0,c3,c1,c6,c4,c7,c5,c6,c7,c2,c0,c3,c1,c4,c2,c0,c3,c3,c1,c5,c2,c0,c3,c1,c6,c4,c7,c5,c6,c7,p2 (CK (onP 2 p2 (Db a n f b tt kk th lo x r p b) L)) (Ef a n f b tt kk th lo x r j),AN b 1 40,AN b 1 8,c0,c1,ile tt (th b),c0,c1,ile kk (lo b),c0,c1]) (Ag (ile 0 (ofNat b)) (ilt (ofNat b) (ofNat n))) (nlt b n) (ieq (ofNat b) (ofNat b)) (AV b b) (ieq (th b) (th b)) (ieq ((shG n f b)).src ((shG n f b)).src) (ieq (lo b) (lo b)) (ieq 0 0)) (by kernel_rfl) (by simp only [hp2] <;> simp only [*,BQ,CF] <;> rfl)
theorem Aep (h0:ilt (ofNat b) (ofNat n) = true) (h17:ile 0 (ofNat b) = true) (h18:nlt b n = true) (h19:AN b 1 40 = true) (h20:AN b 1 8 = true) (h1:ile tt (th b) = false) (h2:ile kk (lo b) = false) (hp2:p2 (CK (onP 2 p2 (Db a n f b tt kk th lo x r p b) L)) (Ef a n f b tt kk th lo x r j) = true):Al (Fa (onP 2 p2 (Db a n f b tt kk th lo x r p b) L)) (Jt a n f) (J7 a n f b tt kk th lo x r j) = some (.nm,⟨(jsV 132 0 (fun _=>.und) [(4,(.ptr 0 0)),(5,(iV 0)),(6,(iV 0)),(9,(.ref 1)),(10,(nV n)),(11,(.ref 2)),(13,(.ref 3)),(15,(.ptr 4 0)),(16,(iV (wr .i64 (Af (ofNat b) 1))))]),[c7Z,.row 44 6 n (fun i=>eV (shG n f i)),.row 3 1 n (fun k=>iV (th k)),.row 3 1 n (fun k=>iV (lo k)),.cells [iV a,.ref 1,.ref 5,iV tt,iV kk,.ref 6,.jref 7],.row 40 5 (Bj b 1) (AO b x (.agg [iV (th b),iV p,iV ((shG n f b)).src,iV (lo b),iV 0])),.row 3 1 (Bj b 1) (AO b (fun i=>iV (r i)) (iV (-1))),jgZ]⟩):=Aa (bbK 58 126100789566373887) ((fun c0 c1 c2 c3 c4 c5 c6 c7=>[ilt (ofNat b) (ofNat n),c0,c1,c0,c1,c0,c1,c2,c0,c3,c1,c4,c2,c0,c3,c3,c1,c5,c2,c0,c3,c1,c6,c4,c7,c5,c6,c7,c2,c0,c3,c1,c4,c2,c0,c3,c3,c1,c5,c2,c0,c3,c1,c6,c4,c7,c5,c6,c7,p2 (CK (onP 2 p2 (Db a n f b tt kk th lo x r p b) L)) (Ef a n f b tt kk th lo x r j),AN b 1 40,AN b 1 8,c0,c1,ile tt (th b),c0,c1,ile kk (lo b)]) (Ag (ile 0 (ofNat b)) (ilt (ofNat b) (ofNat n))) (nlt b n) (ieq (ofNat b) (ofNat b)) (AV b b) (ieq (th b) (th b)) (ieq ((shG n f b)).src ((shG n f b)).src) (ieq (lo b) (lo b)) (ieq 0 0)) (by kernel_rfl) (by simp only [hp2] <;> simp only [*,BQ,CF] <;> rfl)
end
def Li (a:Int) (n:Nat) (f:Nat->E6):Lp:=⟨(bmK 132 0 [4,15,19]),8,bmK 132 0 [4,15],8,17⟩
def MS (a:Int) (n:Nat) (f:Nat->E6) (b kk:Nat) (tt:Int) (th lo:Nat->Int) (x:Nat->Ev5) (r:Nat->Int) (ln:Nat->Nat) (co:Nat->Nat->Int) (j:Nat->V):St:=⟨(jsV 132 0 j [(4,.ptr 0 0),(15,.ptr 4 0),(19,nV b)]),[c7Z,.row 44 6 n (fun i=>eV (shG n f i)),.row 3 1 n (fun i=>iV (th i)),.row 3 1 n (fun i=>iV (lo i)),.cells [iV a,.ref 1,.ref 5,iV tt,nV kk,.ref 6,.jref 7],.row 40 5 n (fun i=>evV (x i)),.row 3 1 n (fun i=>iV (r i)),.jag (Jag.mk 25 1 b (fun _=>.und) 0 3 1 (fun _=>true) ln (fun i q=>iV (co i q)))]⟩
def H8 (a:Int) (n:Nat) (f:Nat->E6) (b kk:Nat) (tt:Int) (th lo:Nat->Int) (x:Nat->Ev5) (r:Nat->Int) (ln:Nat->Nat) (co:Nat->Nat->Int):Ex × St:=(.ex 4,⟨(jsV 132 0 (fun _=>.und) [(4,.ptr 0 0),(15,.ptr 4 0)]),[c7Z,.row 44 6 n (fun i=>eV (shG n f i)),.row 3 1 n (fun i=>iV (th i)),.row 3 1 n (fun i=>iV (lo i)),.cells [iV a,.ref 1,.ref 5,iV tt,nV kk,.ref 6,.jref 7],.row 40 5 n (fun i=>evV (x i)),.row 3 1 n (fun i=>iV (r i)),.jag (Jag.mk 25 1 b (fun _=>.und) 0 3 1 (fun _=>true) ln (fun i q=>iV (co i q)))]⟩)
def To (b:Nat) (u:Nat->V):List V:=(jsV 132 0 u [(4,.ptr 0 0),(15,.ptr 4 0),(19,nV b)])
noncomputable def I5 (L:LT):St->T (Ex × St):=fun st=>AE tab ⟨CY,L,Gl⟩ (Az Try.f15 4) 4 st
theorem Ahr (L:LT) (a:Int) (n:Nat) (f:Nat->E6) (b kk:Nat) (tt:Int) (th lo:Nat->Int) (x:Nat->Ev5) (r:Nat->Int) (ln:Nat->Nat) (co:Nat->Nat->Int)  (j:Nat->V) (h0:ilt (ofNat b) (ofNat kk) = false):(((AE tab ⟨CY,L,Gl⟩ (Az Try.f15 4) 4 (MS a n f b kk tt th lo x r ln co j)).bind fun rr=>T.leaf (QQ (Li a n f) rr))).sem = some ((.ex 4),⟨(jsV 132 0 (fun _=>.und) [(4,(.ptr 0 0)),(15,(.ptr 4 0))]),[c7Z,.row 44 6 n (fun i=>eV (shG n f i)),.row 3 1 n (fun i=>iV (th i)),.row 3 1 n (fun i=>iV (lo i)),.cells [iV a,.ref 1,.ref 5,iV tt,nV kk,.ref 6,.jref 7],.row 40 5 n (fun i=>.agg [iV ((x i)).th,iV ((x i)).pl,iV ((x i)).dir,iV ((x i)).loc,iV ((x i)).val]),.row 3 1 n (fun i=>iV (r i)),.jag (Jag.mk 25 1 b (fun _=>.und) 0 3 1 (fun _=>true) ln (fun i q=>iV (co i q)))]⟩):=Aa [false] [ilt (ofNat b) (ofNat kk)] (by kernel_rfl) (by simp only [h0] <;> rfl)
theorem Ahq (L:LT) (a:Int) (n:Nat) (f:Nat->E6) (b kk:Nat) (tt:Int) (th lo:Nat->Int) (x:Nat->Ev5) (r:Nat->Int) (ln:Nat->Nat) (co:Nat->Nat->Int) (u:Nat->V) (x':Nat->Ev5) (r':Nat->Int) (ln':Nat->Nat) (co':Nat->Nat->Int) (lv':Nat->Bool) (c':Nat->V) (d:List Blk) (q59:List V->St->Bool) (j:Nat->V) (h0:ilt (ofNat b) (ofNat kk) = true) (hq59:(q59 [.agg [iV a,.ref 1,.ref 5,iV tt,nV kk,.ref 6,.jref 7],nV b] ⟨(jsV 132 0 j [(4,(.ptr 0 0)),(15,(.ptr 4 0)),(19,(nV b)),(122,(nV b)),(123,(.ptr 4 4)),(124,(nV kk)),(125,(bV (ilt (ofNat b) (ofNat kk)))),(128,(.agg [iV a,.ref 1,.ref 5,iV tt,nV kk,.ref 6,.jref 7])),(129,(nV b))]),[c7Z,.row 44 6 n (fun i=>eV (shG n f i)),.row 3 1 n (fun i=>iV (th i)),.row 3 1 n (fun i=>iV (lo i)),.cells [iV a,.ref 1,.ref 5,iV tt,nV kk,.ref 6,.jref 7],.row 40 5 n (fun i=>.agg [iV ((x i)).th,iV ((x i)).pl,iV ((x i)).dir,iV ((x i)).loc,iV ((x i)).val]),.row 3 1 n (fun i=>iV (r i)),.jag (Jag.mk 25 1 b (fun _=>.und) 0 3 1 (fun _=>true) ln (fun i q=>iV (co i q)))]⟩) = true):(((AE tab ⟨(onC 59 q59 ((.agg [iV a,.ref 1,.ref 5,iV tt,nV kk,.ref 6,.jref 7]),.all ⟨To b u,[c7Z,.row 44 6 n (fun i=>eV (shG n f i)),.row 3 1 n (fun i=>iV (th i)),.row 3 1 n (fun i=>iV (lo i)),.cells [iV a,.ref 1,.ref 5,iV tt,nV kk,.ref 6,.und],.row 40 5 n (fun i=>evV (x' i)),.row 3 1 n (fun i=>iV (r' i)),.jag (Jag.mk 25 1 (Bj b 1) c' 0 3 1 lv' ln' (fun i q=>iV (co' i q)))] ++ d⟩) (CY)),L,Gl⟩ (Az Try.f15 4) 4 (MS a n f b kk tt th lo x r ln co j)).bind fun rr=>T.leaf (QQ (Li a n f) rr))).sem = some (.nm,⟨(jsV 132 0 (fun _=>.und) [(4,(.ptr 0 0)),(15,(.ptr 4 0)),(19,(iV (wr .i64 (Af (ofNat b) 1))))]),[c7Z,.row 44 6 n (fun i=>eV (shG n f i)),.row 3 1 n (fun i=>iV (th i)),.row 3 1 n (fun i=>iV (lo i)),.cells [iV a,.ref 1,.ref 5,iV tt,nV kk,.ref 6,.jref 7],.row 40 5 n (fun i=>.agg [iV ((x' i)).th,iV ((x' i)).pl,iV ((x' i)).dir,iV ((x' i)).loc,iV ((x' i)).val]),.row 3 1 n (fun i=>iV (r' i)),.jag (Jag.mk 25 1 (Bj b 1) c' 0 3 1 lv' ln' (fun i q=>iV (co' i q)))]⟩):=Aa [true,true] [ilt (ofNat b) (ofNat kk),q59 [.agg [iV a,.ref 1,.ref 5,iV tt,nV kk,.ref 6,.jref 7],nV b] ⟨(jsV 132 0 j [(4,(.ptr 0 0)),(15,(.ptr 4 0)),(19,(nV b)),(122,(nV b)),(123,(.ptr 4 4)),(124,(nV kk)),(125,(bV (ilt (ofNat b) (ofNat kk)))),(128,(.agg [iV a,.ref 1,.ref 5,iV tt,nV kk,.ref 6,.jref 7])),(129,(nV b))]),[c7Z,.row 44 6 n (fun i=>eV (shG n f i)),.row 3 1 n (fun i=>iV (th i)),.row 3 1 n (fun i=>iV (lo i)),.cells [iV a,.ref 1,.ref 5,iV tt,nV kk,.ref 6,.jref 7],.row 40 5 n (fun i=>.agg [iV ((x i)).th,iV ((x i)).pl,iV ((x i)).dir,iV ((x i)).loc,iV ((x i)).val]),.row 3 1 n (fun i=>iV (r i)),.jag (Jag.mk 25 1 b (fun _=>.und) 0 3 1 (fun _=>true) ln (fun i q=>iV (co i q)))]⟩] (by kernel_rfl) (by simp only [hq59] <;> simp only [h0] <;> rfl)
def M2 (a:Int) (n:Nat) (f:Nat->E6) (tt:Int) (kk:Nat) (th lo:Nat->Int) (x:Nat->Ev5) (r:Nat->Int):St:=⟨(jsV 132 0 (fun _=>.und) [(4,(.ptr 0 0)),(5,(iV 0)),(6,(iV 0)),(15,(.ptr 4 0)),(19,(iV 0))]),[c7Z,.row 44 6 n (fun i=>eV (shG n f i)),.row 3 1 n (fun k=>iV (th k)),.row 3 1 n (fun k=>iV (lo k)),.cells [iV a,.ref 1,.ref 5,iV tt,nV kk,.ref 6,.jref 7],.row 40 5 n (fun i=>.agg [iV ((x i)).th,iV ((x i)).pl,iV ((x i)).dir,iV ((x i)).loc,iV ((x i)).val]),.row 3 1 n (fun i=>iV (r i)),jgZ]⟩
theorem AjK (L:LT) (p0:PT) (p4:PT) (a:Int) (n:Nat) (f:Nat->E6) (tt:Int) (kk:Nat) (th lo:Nat->Int) (x:Nat->Ev5) (r:Nat->Int) (x':Nat->Ev5) (r':Nat->Int) (ln':Nat->Nat) (co':Nat->Nat->Int) (h16:AL n = true) (h0:ieq (BY a n f) 0 = true) (h1:Zh n f = true) (h17:BW n (fun i=>shG n f i) = true) (h18:AW [.row 3 1 n (fun _=>iV 0)] = true) (hp0:p0 (Fa (onP 0 p0 (Oc a n f n tt (ofNat kk) th lo (fun i=>evV (x i)) r) (onP 4 p4 (H8 a n f kk kk tt th lo x' r' ln' co') L))) (Vs a n f) = true) (hp4:p4 (I5 (onP 0 p0 (Oc a n f n tt (ofNat kk) th lo (fun i=>evV (x i)) r) (onP 4 p4 (H8 a n f kk kk tt th lo x' r' ln' co') L))) (M2 a n f tt kk th lo x r) = true):(As (Aj tab ⟨CY,onP 0 p0 (Oc a n f n tt (ofNat kk) th lo (fun i=>evV (x i)) r) (onP 4 p4 (H8 a n f kk kk tt th lo x' r' ln' co') L),Gl⟩ Try.f15 [iV a,.sl 6 n fun i=>eV (f i)] [])).sem = some ((.tup [.agg [iV a,.ref 0,.ref 1,iV tt,nV kk,.ref 2,.jref 3],iV 0,iV 0]),[.row 44 6 n (fun i=>eV (shG n f i)),.row 40 5 n (fun i=>.agg [iV ((x' i)).th,iV ((x' i)).pl,iV ((x' i)).dir,iV ((x' i)).loc,iV ((x' i)).val]),.row 3 1 n (fun i=>iV (r' i)),.jag (Jag.mk 25 1 kk (fun _=>.und) 0 3 1 (fun _=>true) ln' (fun i q=>iV (co' i q)))]):=Aa (bbK 16 65531) ((fun c0 c1 c2 c3=>[c0,c1,Am (ieq (BY a n f) 0),c0,c1,Zh n f,c0,c1,c2,c3,c0,c1,c2,c3,p0 (Fa (onP 0 p0 (Oc a n f n tt (ofNat kk) th lo (fun i=>evV (x i)) r) (onP 4 p4 (H8 a n f kk kk tt th lo x' r' ln' co') L))) (Vs a n f),p4 (I5 (onP 0 p0 (Oc a n f n tt (ofNat kk) th lo (fun i=>evV (x i)) r) (onP 4 p4 (H8 a n f kk kk tt th lo x' r' ln' co') L))) (M2 a n f tt kk th lo x r)]) (Ai n (fun _=>true)) (AL n) (BW n (fun i=>shG n f i)) (AW [.row 3 1 n (fun _=>iV 0)])) (by kernel_rfl) (by simp only [hp0,hp4] <;> simp only [*,Ar,Cc] <;> rfl)
theorem ile_nat (a b:Nat):ile (ofNat a) (ofNat b) = decide (a <= b):=by
  unfold ile
  rw [Bool.eq_iff_iff]
  simp
theorem YL (a b:Int):ieq a b = ieq b a:=by
  unfold ieq
  rw [Bool.eq_iff_iff]
  simp only [beq_iff_eq]
  exact eq_comm
theorem T5 (L:LT) (a:Int) (n:Nat) (f:Nat->E6) (b:Nat) (tt kk:Int) (th lo:Nat->Int) (x:Nat->V) (r:Nat->Int) (hb:b < n) (hn:n <= 16):∀ (e c:Nat) (j:Nat->V) (q:Nat),b = c+e->e < q ->
    (A7 (CK L) (Lj a n f) q (MT a n f b tt kk th lo x r (ofNat (Ak (fun k=>ieq (th k) (th b)) c)) c j)).sem = some (Db a n f b tt kk th lo x r (ofNat (Ak (fun k=>ieq (th k) (th b)) b)) b)
  | 0,c,j,q+1,h,_=>by
    have:b = c:=by omega
    subst this
    exact Ac (Ah3 L a n f b tt kk th lo x r _ b j (AA (Nat.le_refl _)))
  | e+1,c,j,q+1,h,h2=>by
    have hl:c < b:=by omega
    have hc:=Be (fun k=>ieq (th k) (th b)) c
    cases hp:ieq (th c) (th b) with
    | true =>
      rw [Ac (Ah1 L a n f b tt kk th lo x r _ c j (ofNat_lt hl) (Ax (by omega)) (decide_eq_true (by omega)) (Ax hb) (decide_eq_true hb) hp),Av,Aq hl (by omega),Aq (n:=n) (by omega) (by omega),<- Bg (p:=fun k=>ieq (th k) (th b)) hp]
      exact T5 L a n f b tt kk th lo x r hb hn e (c+1) (fun _=>.und) q (by omega) (by omega)
    | false =>
      rw [Ac (Ah2 L a n f b tt kk th lo x r _ c j (ofNat_lt hl) (Ax (by omega)) (decide_eq_true (by omega)) (Ax hb) (decide_eq_true hb) hp),Av,Aq hl (by omega),<- Bv (p:=fun k=>ieq (th k) (th b)) hp]
      exact T5 L a n f b tt kk th lo x r hb hn e (c+1) (fun _=>.und) q (by omega) (by omega)
theorem Ub (a:Int) (n:Nat) (f:Nat->E6) (b:Nat) (tt kk:Int) (th lo:Nat->Int) (x:Nat->V) (r:Nat->Int) (j:Nat->V):Ef a n f b tt kk th lo x r j = MT a n f b tt kk th lo x r 0 0 (fun i=>nth (Ef a n f b tt kk th lo x r j).t i):=by kernel_rfl
theorem AiB {p:Nat->Bool} {n b:Nat} (hb:b < n) (hn:n <= 16):(ile (ofNat (rN p n b)) (A0 p n b) = true ∧ wr .i64 (Af (A0 p n b) 1) = ofNat (rN p n (b+1))) ∨ (ile (ofNat (rN p n b)) (A0 p n b) = false ∧ rN p n b = rN p n (b+1)):=by
  have h1:=Kh p n b hb
  have h2:=R5 p n b
  rw [Ho hb,Aq (n:=n) (by omega) (by omega),ile_nat,rN]
  by_cases h:Bd p n b < rN p n b
  · rw [if_pos h]
    exact .inr ⟨decide_eq_false (by omega),rfl⟩
  · rw [if_neg h]
    exact .inl ⟨decide_eq_true (by omega),by rw [show Bd p n b = rN p n b by omega]⟩
theorem Acf (M:LT) (hMM:LLe M M) (a:Int) (n:Nat) (f:Nat->E6) (m2:∀ g st,M 2 g st = A7 g (Lj a n f) (n+1) st) (hn:n <= 16):∀ (e b:Nat) (j:Nat->V) (q:Nat),n = b+e->e < q ->
    (A7 (Fa M) (Jt a n f) q (J7 a n f b (ofNat (rN (obF (shG n f)) n b)) (ofNat (rN (mbF (shG n f)) n b)) (thF n (shG n f)) (loF n (shG n f)) (fun i=>evV (upX n (shG n f) b i)) (fun _=>-1) j)).sem = some (Oc a n f n (ofNat (rN (obF (shG n f)) n n)) (ofNat (rN (mbF (shG n f)) n n)) (thF n (shG n f)) (loF n (shG n f)) (fun i=>evV (upX n (shG n f) n i)) (fun _=>-1))
  | 0,b,j,q+1,h,_=>by
    have:n = b:=by omega
    subst this
    exact Ac (Ah9 M a n f n _ _ _ _ _ _ j (AA (Nat.le_refl _)))
  | e+1,b,j,q+1,h,h2=>by
    have hl:b < n:=by omega
    have hi:∀ M',(M 2 (CK M') (Ef a n f b (ofNat (rN (obF (shG n f)) n b)) (ofNat (rN (mbF (shG n f)) n b)) (thF n (shG n f)) (loF n (shG n f)) (fun i=>evV (upX n (shG n f) b i)) (fun _=>-1) j)).sem = some (Db a n f b (ofNat (rN (obF (shG n f)) n b)) (ofNat (rN (mbF (shG n f)) n b)) (thF n (shG n f)) (loF n (shG n f)) (fun i=>evV (upX n (shG n f) b i)) (fun _=>-1) (ofNat (Ak (fun k=>ieq (thF n (shG n f) k) (thF n (shG n f) b)) b)) b):=fun M'=>by
      rw [m2,Ub]
      exact T5 M' a n f b (ofNat (rN (obF (shG n f)) n b)) (ofNat (rN (mbF (shG n f)) n b)) (thF n (shG n f)) (loF n (shG n f)) (fun i=>evV (upX n (shG n f) b i)) (fun _=>-1) hl hn b 0 _ (n+1) (by omega) (by omega)
    have hx:=Rj n (shG n f) b
    rw [show evV (evF n (shG n f) (fun _=>false) b) = .agg [iV (thF n (shG n f) b),iV (ofNat (Ak (fun k=>ieq (thF n (shG n f) k) (thF n (shG n f) b)) b)),iV (shG n f b).src,iV (loF n (shG n f) b),iV 0] by
      rw [CX hl,show Ak (fun k=>ieq (thF n (shG n f) k) (thF n (shG n f) b)) b = plF n (shG n f) b from GX fun i _=>YL _ _]; rfl] at hx
    have next:=Acf M hMM a n f m2 hn e (b+1) (fun _=>.und) q (by omega) (by omega)
    rcases AiB (p:=obF (shG n f)) hl hn with ⟨c1,w1⟩ | ⟨c1,w1⟩ <;> rcases AiB (p:=mbF (shG n f)) hl hn with ⟨c2,w2⟩ | ⟨c2,w2⟩
    · have w1:wr .i64 (Af (thF n (shG n f) b) 1) = _:=w1
      have w2:wr .i64 (Af (loF n (shG n f) b) 1) = _:=w2
      have h3:=Aem M _ a n f b (ofNat (rN (obF (shG n f)) n b)) (ofNat (rN (mbF (shG n f)) n b)) (thF n (shG n f)) (loF n (shG n f)) (fun i=>evV (upX n (shG n f) b i)) (fun _=>-1) (ofNat (Ak (fun k=>ieq (thF n (shG n f) k) (thF n (shG n f) b)) b)) j (ofNat_lt hl) (AH b) (decide_eq_true hl) (C6 (by omega)) (C6 (by omega)) c1 c2 (An (hi _))
      have h4:Al (Fa M) (Jt a n f) (J7 a n f b (ofNat (rN (obF (shG n f)) n b)) (ofNat (rN (mbF (shG n f)) n b)) (thF n (shG n f)) (loF n (shG n f)) (fun i=>evV (upX n (shG n f) b i)) (fun _=>-1) j) = _:=DO (l:=Jt a n f) (F9 (Γ:=⟨CY,M,Gl⟩) (Aw hMM hMM) (Az Try.f15 0) 0 (J7 a n f b (ofNat (rN (obF (shG n f)) n b)) (ofNat (rN (mbF (shG n f)) n b)) (thF n (shG n f)) (loF n (shG n f)) (fun i=>evV (upX n (shG n f) b i)) (fun _=>-1) j)) h3
      rw [Ac h4,Av,Aq hl (by omega),hx,Ep]
      rw [w1,w2]
      exact next
    · have w1:wr .i64 (Af (thF n (shG n f) b) 1) = _:=w1
      have h3:=Aen M _ a n f b (ofNat (rN (obF (shG n f)) n b)) (ofNat (rN (mbF (shG n f)) n b)) (thF n (shG n f)) (loF n (shG n f)) (fun i=>evV (upX n (shG n f) b i)) (fun _=>-1) (ofNat (Ak (fun k=>ieq (thF n (shG n f) k) (thF n (shG n f) b)) b)) j (ofNat_lt hl) (AH b) (decide_eq_true hl) (C6 (by omega)) (C6 (by omega)) c1 c2 (An (hi _))
      have h4:Al (Fa M) (Jt a n f) (J7 a n f b (ofNat (rN (obF (shG n f)) n b)) (ofNat (rN (mbF (shG n f)) n b)) (thF n (shG n f)) (loF n (shG n f)) (fun i=>evV (upX n (shG n f) b i)) (fun _=>-1) j) = _:=DO (l:=Jt a n f) (F9 (Γ:=⟨CY,M,Gl⟩) (Aw hMM hMM) (Az Try.f15 0) 0 (J7 a n f b (ofNat (rN (obF (shG n f)) n b)) (ofNat (rN (mbF (shG n f)) n b)) (thF n (shG n f)) (loF n (shG n f)) (fun i=>evV (upX n (shG n f) b i)) (fun _=>-1) j)) h3
      rw [Ac h4,Av,Aq hl (by omega),hx,Ep]
      rw [w1,w2]
      exact next
    · have w2:wr .i64 (Af (loF n (shG n f) b) 1) = _:=w2
      have h3:=Aeo M _ a n f b (ofNat (rN (obF (shG n f)) n b)) (ofNat (rN (mbF (shG n f)) n b)) (thF n (shG n f)) (loF n (shG n f)) (fun i=>evV (upX n (shG n f) b i)) (fun _=>-1) (ofNat (Ak (fun k=>ieq (thF n (shG n f) k) (thF n (shG n f) b)) b)) j (ofNat_lt hl) (AH b) (decide_eq_true hl) (C6 (by omega)) (C6 (by omega)) c1 c2 (An (hi _))
      have h4:Al (Fa M) (Jt a n f) (J7 a n f b (ofNat (rN (obF (shG n f)) n b)) (ofNat (rN (mbF (shG n f)) n b)) (thF n (shG n f)) (loF n (shG n f)) (fun i=>evV (upX n (shG n f) b i)) (fun _=>-1) j) = _:=DO (l:=Jt a n f) (F9 (Γ:=⟨CY,M,Gl⟩) (Aw hMM hMM) (Az Try.f15 0) 0 (J7 a n f b (ofNat (rN (obF (shG n f)) n b)) (ofNat (rN (mbF (shG n f)) n b)) (thF n (shG n f)) (loF n (shG n f)) (fun i=>evV (upX n (shG n f) b i)) (fun _=>-1) j)) h3
      rw [Ac h4,Av,Aq hl (by omega),hx,Ep]
      rw [w1,w2]
      exact next
    · have h3:=Aep M _ a n f b (ofNat (rN (obF (shG n f)) n b)) (ofNat (rN (mbF (shG n f)) n b)) (thF n (shG n f)) (loF n (shG n f)) (fun i=>evV (upX n (shG n f) b i)) (fun _=>-1) (ofNat (Ak (fun k=>ieq (thF n (shG n f) k) (thF n (shG n f) b)) b)) j (ofNat_lt hl) (AH b) (decide_eq_true hl) (C6 (by omega)) (C6 (by omega)) c1 c2 (An (hi _))
      have h4:Al (Fa M) (Jt a n f) (J7 a n f b (ofNat (rN (obF (shG n f)) n b)) (ofNat (rN (mbF (shG n f)) n b)) (thF n (shG n f)) (loF n (shG n f)) (fun i=>evV (upX n (shG n f) b i)) (fun _=>-1) j) = _:=DO (l:=Jt a n f) (F9 (Γ:=⟨CY,M,Gl⟩) (Aw hMM hMM) (Az Try.f15 0) 0 (J7 a n f b (ofNat (rN (obF (shG n f)) n b)) (ofNat (rN (mbF (shG n f)) n b)) (thF n (shG n f)) (loF n (shG n f)) (fun i=>evV (upX n (shG n f) b i)) (fun _=>-1) j)) h3
      rw [Ac h4,Av,Aq hl (by omega),hx,Ep]
      rw [w1,w2]
      exact next
def lnR (n:Nat) (g:Nat->E6) (b k:Nat):Nat:=if k < b then lnN (mbF g) (wrF g) n k else 0
def coR (n:Nat) (g:Nat->E6) (b k q:Nat):Int:=if k < b ∧ q < lnN (mbF g) (wrF g) n k then ofNat (coN (mbF g) (wrF g) n k q) else 0
theorem Y4 (n:Nat) (g:Nat->E6) (b:Nat):(fun i=>sel (AV i b) (wcN (wrF g) n (stN (mbF g) n b) (C0 (mbF g) n (stN (mbF g) n b))) (lnR n g b i)) = lnR n g (b+1):=by
  funext i
  unfold lnR
  by_cases hi:i = b
  · subst hi
    rw [show AV i i = true from Nat.beq_refl _,if_pos (Nat.lt_succ_self _)]
    rfl
  · rw [show AV i b = false from nbeq_ne hi]
    by_cases h:i < b
    · rw [if_pos h,if_pos (by omega)]; rfl
    · rw [if_neg h,if_neg (by omega)]; rfl
theorem Zq {n:Nat} {g:Nat->E6} {b:Nat} (hb:b < kkN n g):(fun i i_1=>DE (fun i_2 i_3=>iV (coR n g b i_2 i_3)) b (fun i_2=>iV (wvF n g (stN (mbF g) n b) (C0 (mbF g) n (stN (mbF g) n b)) i_2)) i i_1) = fun i q=>iV (coR n g (b+1) i q):=by
  funext i q
  unfold DE
  rw [FL]
  have hlo:loN n g (stN (mbF g) n b) = b:=(G6 hb).2.2.1
  unfold coR wvF
  rw [hlo]
  by_cases hi:i = b
  · subst hi
    rw [show AV i i = true from Nat.beq_refl _]
    show iV _ = iV _
    by_cases hq:q < wcN (wrF g) n (stN (mbF g) n i) (C0 (mbF g) n (stN (mbF g) n i))
    · rw [if_pos hq,if_pos ⟨Nat.lt_succ_self _,hq⟩]
    · rw [if_neg hq,if_neg (fun h=>hq h.2)]
  · rw [show AV i b = false from nbeq_ne hi]
    show iV _ = iV _
    by_cases h:i < b ∧ q < lnN (mbF g) (wrF g) n i
    · rw [if_pos h,if_pos ⟨by omega,h.2⟩]
    · rw [if_neg h,if_neg (fun h'=>h ⟨by omega,h'.2⟩)]
def hpE (a:Int) (n:Nat) (f:Nat->E6) (th lo:Nat->Int) (tt:Int) (b:Nat):List Blk:=[c7Z,.row 44 6 n (fun i=>eV (shG n f i)),.row 3 1 n (fun i=>iV (th i)),.row 3 1 n (fun i=>iV (lo i)),.cells [iV a,.ref 1,.ref 5,iV tt,iV (ofNat (kkN n (shG n f))),.ref 6,.jref 7],.row 40 5 n (fun i=>evV (evF n (shG n f) (dnF n (shG n f) (loN n (shG n f)) b 0) i)),.row 3 1 n (fun i=>iV (rfF n (shG n f) (dnF n (shG n f) (loN n (shG n f)) b 0) i)),.jag (Jag.mk 25 1 b (fun _=>.und) 0 3 1 (fun _=>true) (lnR n (shG n f) b) (fun i q=>iV (coR n (shG n f) b i q)))]
def Ai9 (a:Int) (n:Nat) (f:Nat->E6) (th lo:Nat->Int) (tt:Int) (b:Nat):List Blk:=[c7Z,.row 44 6 n (fun i=>eV (shG n f i)),.row 3 1 n (fun i=>iV (th i)),.row 3 1 n (fun i=>iV (lo i)),.cells [iV a,.ref 1,.ref 5,iV tt,iV (ofNat (kkN n (shG n f))),.ref 6,.und],.row 40 5 n (fun i=>evV (evF n (shG n f) (dnF n (shG n f) (loN n (shG n f)) b 0) i)),.row 3 1 n (fun i=>iV (rfF n (shG n f) (dnF n (shG n f) (loN n (shG n f)) b 0) i)),.jag (Jag.mk 25 1 b (fun _=>.und) 0 3 1 (fun _=>true) (lnR n (shG n f) b) (fun i q=>iV (coR n (shG n f) b i q)))]
def AfU (a:Int) (n:Nat) (f:Nat->E6) (tt:Int):V:=.agg [iV a,.ref 1,.ref 5,iV tt,iV (ofNat (kkN n (shG n f))),.ref 6,.jref 7]
def XS (a:Int) (n:Nat) (f:Nat->E6) (tt:Int):List Blk:=[.dead,.cells [iV a,.ref 1,.ref 5,iV tt,iV (ofNat (kkN n (shG n f))),.ref 6,.jref 7],.cells [iV a,.ref 1,.ref 5,iV tt,iV (ofNat (kkN n (shG n f))),.ref 6,.jref 7],.dead,.dead]
theorem WJ (vs:List V) (st:St):CY 59 vs st = OB tab (cxZ Gl Tj KH GF) Try.f59 vs st:=by kernel_rfl
theorem TN (q:Nat):(fun i=>sel (AV i q) true true) = fun _=>true:=by
  funext i
  cases AV i q <;> rfl
theorem Za (a:Int) (n k kk:Nat) (g:Nat->E6) (th lo:Nat->Int) (tt:Int) (c0:Nat->V) (x0:Nat->Ev5) (r0:Nat->Int) (ln:Nat->Nat) (co:Nat->Nat->Int) (ts:List V):CT (NQ a n k kk g th lo tt c0 x0 r0 ln co ts) [(11,iV 0)] = Wa a n k kk g th lo tt c0 x0 r0 ln co ts 0 0 (Gz n g x0 (ofNat k)) (-1) x0 r0 (fun _=>0) (fun i=>nth (NQ a n k kk g th lo tt c0 x0 r0 ln co ts).t i):=by kernel_rfl
theorem Aga (n:Nat) (g:Nat->E6) (z:Nat):wvF n g z 0 = fun _=>0:=by
  funext q
  unfold wvF
  rw [show wcN (wrF g) n z 0 = 0 from rfl,if_neg (Nat.not_lt_zero _)]
theorem AfQ (a:Int) (n:Nat) (f:Nat->E6) (hn:n <= 16) (b:Nat) (th lo:Nat->Int) (tt:Int) (ts:List V) (hb:b < kkN n (shG n f)):∃ F,EO F ∧
    (CY 59 [AfU a n f tt,nV b] ⟨ts,hpE a n f th lo tt b⟩).sem = some (AfU a n f tt,.all ⟨ts.map F,Ai9 a n f th lo tt (b+1) ++ XS a n f tt⟩):=by
  obtain ⟨hz,hst,hlo,_⟩:=G6 hb
  have hlo:loN n (shG n f) (stN (mbF (shG n f)) n b) = b:=hlo
  have hL:=DS KH GF
  have hrun:=Ahi a n (stN (mbF (shG n f)) n b) (shG n f) th lo tt (fun _=>.und) (evF n (shG n f) (dnF n (shG n f) (loN n (shG n f)) b 0)) (rfF n (shG n f) (dnF n (shG n f) (loN n (shG n f)) b 0)) (lnR n (shG n f) b) (coR n (shG n f) b) hz hst hn (C0 (mbF (shG n f)) n (stN (mbF (shG n f)) n b)) 0 17 (Nat.zero_add _).symm (by have:=(EH hz hst).2.1; omega)
  rw [hlo] at hrun
  obtain ⟨F,hF,h1⟩:=hrun
  refine ⟨_,(((hF.comp (E7 11)).comp (E7 12)).comp (E7 7)),?_⟩
  have hp:(CG KH GF 0 (I3 (onP 0 (isP (CG KH GF) 0 (J4 a n b (kkN n (shG n f)) (shG n f) th lo tt (fun _=>.und) (evF n (shG n f) (dnF n (shG n f) (loN n (shG n f)) b 0)) (rfF n (shG n f) (dnF n (shG n f) (loN n (shG n f)) b 0)) (lnR n (shG n f) b) (coR n (shG n f) b) (ts.map F) 0 (wcN (wrF (shG n f)) n (stN (mbF (shG n f)) n b) (C0 (mbF (shG n f)) n (stN (mbF (shG n f)) n b))) 0 0 (evF n (shG n f) (dnF n (shG n f) (loN n (shG n f)) (b+1) 0)) (rfF n (shG n f) (dnF n (shG n f) (loN n (shG n f)) (b+1) 0)) (wvF n (shG n f) (stN (mbF (shG n f)) n b) (C0 (mbF (shG n f)) n (stN (mbF (shG n f)) n b))))) (J4 a n b (kkN n (shG n f)) (shG n f) th lo tt (fun _=>.und) (evF n (shG n f) (dnF n (shG n f) (loN n (shG n f)) b 0)) (rfF n (shG n f) (dnF n (shG n f) (loN n (shG n f)) b 0)) (lnR n (shG n f) b) (coR n (shG n f) b) (ts.map F) 0 (wcN (wrF (shG n f)) n (stN (mbF (shG n f)) n b) (C0 (mbF (shG n f)) n (stN (mbF (shG n f)) n b))) 0 0 (evF n (shG n f) (dnF n (shG n f) (loN n (shG n f)) (b+1) 0)) (rfF n (shG n f) (dnF n (shG n f) (loN n (shG n f)) (b+1) 0)) (wvF n (shG n f) (stN (mbF (shG n f)) n b) (C0 (mbF (shG n f)) n (stN (mbF (shG n f)) n b)))) (CG KH GF))) (NQ a n b (kkN n (shG n f)) (shG n f) th lo tt (fun _=>.und) (evF n (shG n f) (dnF n (shG n f) (loN n (shG n f)) b 0)) (rfF n (shG n f) (dnF n (shG n f) (loN n (shG n f)) b 0)) (lnR n (shG n f) b) (coR n (shG n f) b) ts)).sem = some (J4 a n b (kkN n (shG n f)) (shG n f) th lo tt (fun _=>.und) (evF n (shG n f) (dnF n (shG n f) (loN n (shG n f)) b 0)) (rfF n (shG n f) (dnF n (shG n f) (loN n (shG n f)) b 0)) (lnR n (shG n f) b) (coR n (shG n f) b) (ts.map F) 0 (wcN (wrF (shG n f)) n (stN (mbF (shG n f)) n b) (C0 (mbF (shG n f)) n (stN (mbF (shG n f)) n b))) 0 0 (evF n (shG n f) (dnF n (shG n f) (loN n (shG n f)) (b+1) 0)) (rfF n (shG n f) (dnF n (shG n f) (loN n (shG n f)) (b+1) 0)) (wvF n (shG n f) (stN (mbF (shG n f)) n b) (C0 (mbF (shG n f)) n (stN (mbF (shG n f)) n b)))):=by
    show (A7 _ _ 17 (CT (NQ a n b (kkN n (shG n f)) (shG n f) th lo tt (fun _=>.und) (evF n (shG n f) (dnF n (shG n f) (loN n (shG n f)) b 0)) (rfF n (shG n f) (dnF n (shG n f) (loN n (shG n f)) b 0)) (lnR n (shG n f) b) (coR n (shG n f) b) ts) [(11,iV 0)])).sem = _
    rw [Za,W7 hb]
    have h2:=h1 (onP 0 (isP (CG KH GF) 0 (J4 a n b (kkN n (shG n f)) (shG n f) th lo tt (fun _=>.und) (evF n (shG n f) (dnF n (shG n f) (loN n (shG n f)) b 0)) (rfF n (shG n f) (dnF n (shG n f) (loN n (shG n f)) b 0)) (lnR n (shG n f) b) (coR n (shG n f) b) (ts.map F) 0 (wcN (wrF (shG n f)) n (stN (mbF (shG n f)) n b) (C0 (mbF (shG n f)) n (stN (mbF (shG n f)) n b))) 0 0 (evF n (shG n f) (dnF n (shG n f) (loN n (shG n f)) (b+1) 0)) (rfF n (shG n f) (dnF n (shG n f) (loN n (shG n f)) (b+1) 0)) (wvF n (shG n f) (stN (mbF (shG n f)) n b) (C0 (mbF (shG n f)) n (stN (mbF (shG n f)) n b))))) (J4 a n b (kkN n (shG n f)) (shG n f) th lo tt (fun _=>.und) (evF n (shG n f) (dnF n (shG n f) (loN n (shG n f)) b 0)) (rfF n (shG n f) (dnF n (shG n f) (loN n (shG n f)) b 0)) (lnR n (shG n f) b) (coR n (shG n f) b) (ts.map F) 0 (wcN (wrF (shG n f)) n (stN (mbF (shG n f)) n b) (C0 (mbF (shG n f)) n (stN (mbF (shG n f)) n b))) 0 0 (evF n (shG n f) (dnF n (shG n f) (loN n (shG n f)) (b+1) 0)) (rfF n (shG n f) (dnF n (shG n f) (loN n (shG n f)) (b+1) 0)) (wvF n (shG n f) (stN (mbF (shG n f)) n b) (C0 (mbF (shG n f)) n (stN (mbF (shG n f)) n b)))) (CG KH GF)) ts ts (fun i=>nth (NQ a n b (kkN n (shG n f)) (shG n f) th lo tt (fun _=>.und) (evF n (shG n f) (dnF n (shG n f) (loN n (shG n f)) b 0)) (rfF n (shG n f) (dnF n (shG n f) (loN n (shG n f)) b 0)) (lnR n (shG n f) b) (coR n (shG n f) b) ts).t i)
    rw [Aga] at h2
    exact h2
  have hkn:kkN n (shG n f) <= n:=Be _ _
  have hw:=AiV (CG KH GF) (isP (CG KH GF) 0 (J4 a n b (kkN n (shG n f)) (shG n f) th lo tt (fun _=>.und) (evF n (shG n f) (dnF n (shG n f) (loN n (shG n f)) b 0)) (rfF n (shG n f) (dnF n (shG n f) (loN n (shG n f)) b 0)) (lnR n (shG n f) b) (coR n (shG n f) b) (ts.map F) 0 (wcN (wrF (shG n f)) n (stN (mbF (shG n f)) n b) (C0 (mbF (shG n f)) n (stN (mbF (shG n f)) n b))) 0 0 (evF n (shG n f) (dnF n (shG n f) (loN n (shG n f)) (b+1) 0)) (rfF n (shG n f) (dnF n (shG n f) (loN n (shG n f)) (b+1) 0)) (wvF n (shG n f) (stN (mbF (shG n f)) n b) (C0 (mbF (shG n f)) n (stN (mbF (shG n f)) n b))))) a n b (kkN n (shG n f)) (shG n f) th lo tt (fun _=>.und) (evF n (shG n f) (dnF n (shG n f) (loN n (shG n f)) b 0)) (rfF n (shG n f) (dnF n (shG n f) (loN n (shG n f)) b 0)) (lnR n (shG n f) b) (coR n (shG n f) b) ts (ts.map F) 0 (wcN (wrF (shG n f)) n (stN (mbF (shG n f)) n b) (C0 (mbF (shG n f)) n (stN (mbF (shG n f)) n b))) 0 0 (evF n (shG n f) (dnF n (shG n f) (loN n (shG n f)) (b+1) 0)) (rfF n (shG n f) (dnF n (shG n f) (loN n (shG n f)) (b+1) 0)) (wvF n (shG n f) (stN (mbF (shG n f)) n b) (C0 (mbF (shG n f)) n (stN (mbF (shG n f)) n b)))
    (by simp [AU]) (A4.2 fun i _=>A4.2 fun _ _=>rfl) (decide_eq_true (by omega)) (C6 (by omega)) (An hp)
  have e:=Lt (τ:=tab) (G:=Gl) (fn:=Try.f59) (CLe.refl (Ao Tj)) (Aw (k:=0) hL hL) _ hw
  rw [Ep,TN,Y4,Zq hb,Ct,Ct,Ct,List.map_map,List.map_map,List.map_map] at e
  rw [WJ]
  exact Si (st:=⟨ts,hpE a n f th lo tt b⟩) (Γ:=cxZ Gl Tj KH GF) e rfl
def slV (w4 w15 w19:V) (u:Nat->V):List V:=(jsV 132 0 u [(4,w4),(15,w15),(19,w19)])
def Rk (a:Int) (n:Nat) (f:Nat->E6) (tt:Int) (b kk:Nat) (j:Nat->V):List V:=(jsV 132 0 j [(4,(.ptr 0 0)),(15,(.ptr 4 0)),(19,(nV b)),(122,(nV b)),(123,(.ptr 4 4)),(124,(nV kk)),(125,(bV (ilt (ofNat b) (ofNat kk)))),(128,(.agg [iV a,.ref 1,.ref 5,iV tt,nV kk,.ref 6,.jref 7])),(129,(nV b))])
theorem ZD (a:Int) (n:Nat) (f:Nat->E6) (tt:Int) (b kk:Nat) (j:Nat->V):(jsV 132 0 j [(4,(.ptr 0 0)),(15,(.ptr 4 0)),(19,(nV b)),(122,(nV b)),(123,(.ptr 4 4)),(124,(nV kk)),(125,(bV (ilt (ofNat b) (ofNat kk)))),(128,(.agg [(iV a),(.ref 1),(.ref 5),(iV tt),(nV kk),(.ref 6),(.jref 7)])),(129,(nV b))]) = Rk a n f tt b kk j:=rfl
theorem Xb (a:Int) (n:Nat) (f:Nat->E6) (tt:Int) (b kk:Nat) (j:Nat->V) (F:V->V):(Rk a n f tt b kk j).map F = slV (F (.ptr 0 0)) (F (.ptr 4 0)) (F (nV b)) (fun i=>F (nth (Rk a n f tt b kk j) i)):=by kernel_rfl
theorem XJ (L:LT) (a:Int) (n:Nat) (f:Nat->E6) (hn:n <= 16) (th lo:Nat->Int) (tt:Int):∀ (e b:Nat) (j:Nat->V) (q:Nat),kkN n (shG n f) = b+e->e < q ->
    (A7 (I5 L) (Li a n f) q (MS a n f b (kkN n (shG n f)) tt th lo (evF n (shG n f) (dnF n (shG n f) (loN n (shG n f)) b 0)) (rfF n (shG n f) (dnF n (shG n f) (loN n (shG n f)) b 0)) (lnR n (shG n f) b) (coR n (shG n f) b) j)).sem = some (H8 a n f (kkN n (shG n f)) (kkN n (shG n f)) tt th lo (evF n (shG n f) (dnF n (shG n f) (loN n (shG n f)) (kkN n (shG n f)) 0)) (rfF n (shG n f) (dnF n (shG n f) (loN n (shG n f)) (kkN n (shG n f)) 0)) (lnR n (shG n f) (kkN n (shG n f))) (coR n (shG n f) (kkN n (shG n f))))
  | 0,b,j,q+1,h,_=>by
    have h:kkN n (shG n f) = b:=h
    rw [h]
    rw [show I5 L = AE tab ⟨CY,L,Gl⟩ (Az Try.f15 4) 4 from rfl]
    exact Ac (Ahr L a n f b b tt th lo (evF n (shG n f) (dnF n (shG n f) (loN n (shG n f)) b 0)) (rfF n (shG n f) (dnF n (shG n f) (loN n (shG n f)) b 0)) (lnR n (shG n f) b) (coR n (shG n f) b) j (AA (Nat.le_refl _)))
  | e+1,b,j,q+1,h,h2=>by
    have hl:b < kkN n (shG n f):=by omega
    have hkn:kkN n (shG n f) <= n:=Be _ _
    have next:=fun j=>XJ L a n f hn th lo tt e (b+1) j q (by omega) (by omega)
    obtain ⟨F,hF,hc⟩:=AfQ a n f hn b th lo tt (Rk a n f tt b (kkN n (shG n f)) j) hl
    have hts:(Rk a n f tt b (kkN n (shG n f)) j).map F = To b (fun i=>F (nth (Rk a n f tt b (kkN n (shG n f)) j) i)):=by
      rw [Xb,hF.2 0 0 (by omega),hF.2 4 0 (by omega)]
      (try unfold nV); unfold iV
      rw [hF.1]
      rfl
    rw [hts] at hc
    have hr:=fun q59=>Ahq AaI a n f b (kkN n (shG n f)) tt th lo (evF n (shG n f) (dnF n (shG n f) (loN n (shG n f)) b 0)) (rfF n (shG n f) (dnF n (shG n f) (loN n (shG n f)) b 0)) (lnR n (shG n f) b) (coR n (shG n f) b) (fun i=>F (nth (Rk a n f tt b (kkN n (shG n f)) j) i)) (evF n (shG n f) (dnF n (shG n f) (loN n (shG n f)) (b+1) 0)) (rfF n (shG n f) (dnF n (shG n f) (loN n (shG n f)) (b+1) 0)) (lnR n (shG n f) (b+1)) (coR n (shG n f) (b+1)) (fun _=>true) (fun _=>.und) (XS a n f tt) q59 j (ofNat_lt hl)
    rw [ZD a n f] at hr
    have hr:=hr (isC CY 59 (AfU a n f tt,.all ⟨To b (fun i=>F (nth (Rk a n f tt b (kkN n (shG n f)) j) i)),Ai9 a n f th lo tt (b+1) ++ XS a n f tt⟩)) (Sg hc)
    have hr':=DO (f':=I5 L) (l:=Li a n f) (Lu (τ:=tab) (G:=Gl) (Yf (CLe.refl CY)) (UQ L) (Az Try.f15 4) 4 (MS a n f b (kkN n (shG n f)) tt th lo (evF n (shG n f) (dnF n (shG n f) (loN n (shG n f)) b 0)) (rfF n (shG n f) (dnF n (shG n f) (loN n (shG n f)) b 0)) (lnR n (shG n f) b) (coR n (shG n f) b) j)) hr
    rw [Ac hr',Av,Aq hl (by omega)]
    exact next (fun _=>.und)
theorem YG {L N:LT} (hL:LLe L L) (hN:LLe N N) (k:Nat) (r:Ex × St):LLe (onP k (isP L k r) r N) (onP k (isP L k r) r N):=fun id f f' st hf r' hr=>by
  unfold onP at hr ⊢
  cases hk:Nat.beq id k with
  | true =>
    rw [hk] at hr
    obtain ⟨h1,h2⟩:=Ah hr
    unfold isP at h1
    have h1:=@of_decide_eq_true _ (Classical.propDecidable _) h1
    have h3:isP L k r f' st = true:=An (hL k f f' st hf _ h1)
    show sel (isP L k r f' st) _ _ = _
    rw [h3]
    exact h2
  | false =>
    rw [hk] at hr
    exact hN id f f' st hf _ hr
def AfY:List (Nat × List (Nat × V)):=[(0,[(5,evV ⟨0,0,0,0,0⟩),(6,iV (-1))]),(4,[(7,iV 0)])]
def Acp (a:Int) (n:Nat) (f:Nat->E6):List (Nat × Lp):=[(0,Jt a n f),(2,Lj a n f),(4,Li a n f)]
noncomputable def WE (a:Int) (n:Nat) (f:Nat->E6):Cx:=⟨CY,CG AfY (Acp a n f),Gl⟩
theorem AfI (a:Int) (n:Nat) (f:Nat->E6):CT (Vs a n f) [(5,evV ⟨0,0,0,0,0⟩),(6,iV (-1))] = J7 a n f 0 0 0 (thF n (shG n f)) (loF n (shG n f)) (fun _=>evV ⟨0,0,0,0,0⟩) (fun _=>-1) (fun i=>nth (Vs a n f).t i):=by kernel_rfl
theorem YS (a:Int) (n:Nat) (f:Nat->E6) (tt:Int) (kk:Nat) (th lo:Nat->Int) (x:Nat->Ev5) (r:Nat->Int):CT (M2 a n f tt kk th lo x r) [(7,iV 0)] = MS a n f 0 kk tt th lo x r (fun _=>0) (fun _ _=>0) (fun i=>nth (M2 a n f tt kk th lo x r).t i):=by kernel_rfl
theorem Aiy (n:Nat) (g:Nat->E6):lnR n g 0 = fun _=>0:=by funext i; simp [lnR]
theorem AiO (n:Nat) (g:Nat->E6):coR n g 0 = fun _ _=>0:=by funext i q; simp [coR]
theorem Ac0 (n:Nat) (g:Nat->E6):dnF n g (loN n g) 0 0 = fun _=>false:=by
  funext j
  unfold dnF
  rw [Zf]
  simp
theorem WX (n:Nat) (g:Nat->E6):upX n g n = evF n g (dnF n g (loN n g) 0 0):=by
  rw [Ac0,Uu,Zg]
def Aic (n:Nat) (g:Nat->E6):List Blk:=[.row 44 6 n (fun i=>eV (g i)),.row 40 5 n (fun i=>evV (evF n g (dnF n g (loN n g) (kkN n g) 0) i)),.row 3 1 n (fun i=>iV (rfF n g (dnF n g (loN n g) (kkN n g) 0) i)),
  .jag ⟨25,1,kkN n g,fun _=>.und,0,3,1,fun _=>true,lnR n g (kkN n g),fun k i=>iV (coR n g (kkN n g) k i)⟩]
theorem Aa2 {n:Nat} {g:Nat->E6} (hk:0 < kkN n g):A6 (Aic n g) (Tr n g):=by
  have hd:∀ i,i < n->dnF n g (loN n g) (kkN n g) 0 i = true:=fun i hi=>by
    unfold dnF
    rw [decide_eq_true hi,SF]
    · rfl
    · exact RU hi hk
  refine .cons (fun _ _=>rfl) (.cons (fun i hi=>?_) (.cons (fun i hi=>?_) (.consB (.jag (fun _ _=>.inr rfl) (fun _ _=>rfl) (fun k hk'=>?_) (fun k hk' q hq=>?_)) (.refl []))))
  · rw [CX hi,CX hi,hd i hi]
  · unfold rfF
    rw [hd i hi]
  · have hk':k < kkN n g:=hk'
    show lnN _ _ n k = lnR n g (kkN n g) k
    unfold lnR
    rw [if_pos hk']
  · have hk':k < kkN n g:=hk'
    have hq:q < lnR n g (kkN n g) k:=hq
    unfold lnR at hq
    rw [if_pos hk'] at hq
    show iV _ = iV _
    unfold coR
    rw [if_pos ⟨hk',hq⟩]
theorem Ad8 {a:Int} {n:Nat} {f:Nat->E6} (h8:AL n = true) (hc:ieq (BY a n f) 0 = true) :
    (As (Aj tab (WE a n f) Try.f15 [iV a,A2 n f] [])).sem = some (.tup [Tq a n (shG n f),iV 0,iV 0],Aic n (shG n f)):=by
  have hy:=F6 hc
  have hlo:=hy.lo
  have hhi:=hy.hi
  have hL:=DS AfY (Acp a n f)
  have hg:=IL hy
  have hko:rN (obF (shG n f)) n n = ttN n (shG n f):=PX hg.outer
  have hkm:rN (mbF (shG n f)) n n = kkN n (shG n f):=PX hg.moves
  have hkl:kkN n (shG n f) <= n:=Be _ _
  unfold WE
  have hQ:=YG hL (YG hL hL 4 (H8 a n f (kkN n (shG n f)) (kkN n (shG n f)) (ofNat (ttN n (shG n f))) (thF n (shG n f)) (loF n (shG n f)) (evF n (shG n f) (dnF n (shG n f) (loN n (shG n f)) (kkN n (shG n f)) 0)) (rfF n (shG n f) (dnF n (shG n f) (loN n (shG n f)) (kkN n (shG n f)) 0)) (lnR n (shG n f) (kkN n (shG n f))) (coR n (shG n f) (kkN n (shG n f))))) 0 (Oc a n f n (ofNat (ttN n (shG n f))) (ofNat (kkN n (shG n f))) (thF n (shG n f)) (loF n (shG n f)) (fun i=>evV (upX n (shG n f) n i)) (fun _=>-1))
  refine A3 (Aw (Aw hL hL) hL) _ (AjK _ _ _ a n f (ofNat (ttN n (shG n f))) (kkN n (shG n f)) (thF n (shG n f)) (loF n (shG n f)) (upX n (shG n f) n) (fun _=>-1)
    (evF n (shG n f) (dnF n (shG n f) (loN n (shG n f)) (kkN n (shG n f)) 0)) (rfF n (shG n f) (dnF n (shG n f) (loN n (shG n f)) (kkN n (shG n f)) 0)) (lnR n (shG n f) (kkN n (shG n f))) (coR n (shG n f) (kkN n (shG n f))) h8 hc (SH.2 ⟨a,hy⟩) hg.may Cc (An ?_) (An ?_))
  · show (A7 _ (Jt a n f) (n+1) (CT _ [(5,evV ⟨0,0,0,0,0⟩),(6,iV (-1))])).sem = _
    rw [AfI]
    have h:=fun M hM m2 j=>Acf M hM a n f m2 hhi n 0 j (n+1) (by omega) (by omega)
    rw [AbM,hko,hkm] at h
    exact h _ hQ (fun g st=>rfl) _
  · show (A7 _ (Li a n f) 17 (CT _ [(7,iV 0)])).sem = _
    rw [YS]
    have h:=fun L j=>XJ L a n f hhi (thF n (shG n f)) (loF n (shG n f)) (ofNat (ttN n (shG n f))) (kkN n (shG n f)) 0 j 17 (by omega) (by omega)
    rw [<- WX,Aiy,AiO,show rfF n (shG n f) (dnF n (shG n f) (loN n (shG n f)) 0 0) = fun _=>-1 by rw [Ac0]; rfl] at h
    exact h _ _
theorem p15:AB Try.prog Gl 15 ofT:=by
  refine A1 AQ AR Try.func15 (by kernel_rfl) (by kernel_rfl) fun vs v h' h=>?_
  unfold ofT at h
  split at h
  · rename_i a u
    obtain ⟨n,f,ha,h1⟩:=Cj h
    obtain ⟨h8,hq⟩:=Ah h1
    have hA:Bw [iV a,u] [iV a,A2 n f]:=fun S w cs hv=>by
      obtain ⟨c,l,rfl,q1,d,l',rfl,q2,q3⟩:=hv
      exact ⟨c,_,rfl,q1,d,l',rfl,ha S w d q2,q3⟩
    have hx:Bn Try.prog (WE a n f).base ∧ Cm (WE a n f):=⟨WI,RT rfl⟩
    cases hc:ieq (BY a n f) 0 with
    | true =>
      rw [hc] at hq
      have:=Ad hq
      simp only [Prod.mk.injEq] at this
      obtain ⟨rfl,rfl⟩:=this
      have hg:=IL (F6 hc)
      have hm:=hg.moves
      exact ⟨_,WE a n f,_,hA,rfl,hx.1,hx.2,Ad8 h8 hc,Aa2 (by show 0 < Ak (fun k=>Au (shG n f k)) n; omega)⟩
    | false =>
      rw [hc] at hq
      have:=Ad hq
      simp only [Prod.mk.injEq] at this
      obtain ⟨rfl,rfl⟩:=this
      exact ⟨_,WE a n f,_,hA,rfl,hx.1,hx.2,AjL _ a n f h8 hc,A6.refl _⟩
  · cases h
end Go.Proofs.Ytjhnfomefcngfaa.Sh
