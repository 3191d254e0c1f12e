/-
  Marked, Grown, Heaped: of edges and of numbers. No conditions.
-/
import Derived.Test.YtjhnfomefcngfaaCyUa
import Derived.Test.YtjhnfomefcngfaaEdC
namespace Go.Proofs.Ytjhnfomefcngfaa.Ed
open Go.Sy Go
open Int (ofNat)
noncomputable def tb43:List (Nat × (List V->T (V × List Blk))):=(49,markT) :: []
def updA {α:Type} (z:Nat->α) (i:Nat) (e:α):Nat->α:=fun k=>bif Nat.beq k i then e else z k
def fillA {α:Type} (y:Nat->α) (e:α):Nat->Nat->α
  | 0=>y
  | i+1=>updA (fillA y e i) i e
theorem set_iV (z:Nat->Int) (i:Nat) (e:Int):setGet (fun k=>iV (z k)) i (iV e) = fun k=>iV (updA z i e k):=by
  funext k
  rw [setGet_eq]
  unfold updA
  cases Nat.beq k i <;> rfl
theorem ile_0 (i:Nat):ile 0 (ofNat i) = true:=decide_eq_true (Int.natCast_nonneg i)
def lp56 (n:Nat) (y:Nat->Int) (k:Int):Lp:=⟨(bmK 16 0 [0,1,4]),1,(bmK 16 0 []),1,n+1⟩
def st56 (n:Nat) (y:Nat->Int) (k:Int) (i:Nat) (z:Nat->Int) (j:Nat->V):St:=⟨(jsV 16 0 j [(0,.ref 0),(1,iV k),(4,nV i)]),[.xrow false 3 1 n (fun i=>iV (z i))]⟩
def en56e (n:Nat) (y:Nat->Int) (k:Int) (i:Nat) (z:Nat->Int):Ex × St:=(.ex 0,⟨(jsV 16 0 (fun _=>.und) []),[.xrow false 3 1 n (fun i=>iV (z i))]⟩)
noncomputable def body56 (L:LT):St->T (Ex × St):=fun st=>evalC tab ⟨callT tb43,L,Gl⟩ (loopBody Try.f28 0) 0 st
section
variable (L:LT) (n:Nat) (y:Nat->Int) (k:Int) (i:Nat) (z:Nat->Int)  (j:Nat->V)
include L n y k i z j
theorem rc56e (h0:ilt (ofNat i) (ofNat n) = false):roundT (body56 L) (lp56 n y k) (st56 n y k i z j) = some ((.ex 0),⟨(jsV 16 0 (fun _=>.und) []),[(.xrow false 3 1 n (fun i=>(iV (z i))))]⟩):=by
  exact sem_of_path (ds:=[false]) (cs:=[(ilt (ofNat i) (ofNat n))]) (by kernel_rfl) (by simp only [h0] <;> rfl)
theorem rc56n (h0:ilt (ofNat i) (ofNat n) = true) (h10:ile 0 (ofNat i) = true) (h11:nlt i n = true):roundT (body56 L) (lp56 n y k) (st56 n y k i z j) = some (.nm,⟨(jsV 16 0 (fun _=>.und) [(0,(.ref 0)),(1,(iV k)),(4,(iV (wr .i64 (iadd (ofNat i) 1))))]),[(.xrow false 3 1 n (setGet (fun i=>(iV (z i))) i (iV (wr .i64 (isub (-1000000) k)))))]⟩):=by
  exact sem_of_path (ds:=[true,true,true]) (cs:=[(ilt (ofNat i) (ofNat n)),(band (ile 0 (ofNat i)) (ilt (ofNat i) (ofNat n))),(nlt i n)]) (by kernel_rfl) (by simp only [h0,h10,h11] <;> rfl)
end
theorem run56 (L:LT) (n:Nat) (y:Nat->Int) (k:Int) (hn:n <= 4611686018427387904):∀ (d i:Nat) (j:Nat->V) (q:Nat),n = i+d->d < q ->
    (iterT (body56 L) (lp56 n y k) q (st56 n y k i (fillA y (wr .i64 (isub (-1000000) k)) i) j)).sem = some (en56e n y k n (fillA y (wr .i64 (isub (-1000000) k)) n))
  | 0,i,j,q+1,h,_=>by
    have:n = i:=by omega
    subst this
    exact iter_round (rc56e L n y k n _ j (ofNat_ge (Nat.le_refl _)))
  | d+1,i,j,q+1,h,h2=>by
    have hi:i < n:=by omega
    have h1:=rc56n L n y k i (fillA y (wr .i64 (isub (-1000000) k)) i) j (ofNat_lt hi) (ile_0 i) (decide_eq_true hi)
    rw [set_iV] at h1
    rw [iter_round h1,goOn_nm,succ_wr hi (by omega)]
    exact run56 L n y k hn d (i+1) (fun _=>.und) q (by omega) (by omega)
end Go.Proofs.Ytjhnfomefcngfaa.Ed
