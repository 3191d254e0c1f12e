/-
  Layer 7: the law ShapeThreads, as a function: the threads' events are all events, side by side, in order. No conditions.
-/
import Derived.Test.YtjhnfomefcngfaaShL
import Derived.Test.YtjhnfomefcngfaaCyZ
import Derived.Test.YtjhnfomefcngfaaCyP
namespace Go.Proofs.Ytjhnfomefcngfaa.Sh
open Go.Sy Ed
set_option maxHeartbeats 1000000
set_option maxRecDepth 4000
theorem Aa9 {a:Int} {n:Nat} {f:Nat->E6} (h:IsCycle a n f):shG n (shG n f) = shG n f:=by
  have hlo:=h.lo
  have hl:=IP n (fun i=>Bv (f i))
  have key:∀ i,i < n->Bk n (shG n f) i = Bk n f i:=fun i hi=>by
    have h1:=Lx h
    rw [Uq (f:=fun i=>Bk n f ((shQ n f+i) % n)) (h1.turned (MP h).2.2.2).may (fun i hi=>JU hi) hi]
    rw [Mc (f:=fun i=>Bk n f i) (by omega) (MP h).2.2.2 h1.may hi]
    exact ZG (by omega) h.may hi
  have hq:shQ n (shG n f) = shQ n f:=by
    unfold shQ
    rw [Nq (p:=fun i=>Az (Bk n (shG n f) i)) (q:=fun i=>Az (Bk n f i)) fun i hi=>by rw [key i hi]]
  funext i
  by_cases hi:i < n
  · rw [JU hi,JU hi,hq]
    exact key _ (Nat.mod_lt _ (by omega))
  · unfold shG AfW
    rw [decide_eq_false hi]
    rfl
theorem Wo (s:Sh7):LI s s = true:=by
  unfold LI
  rw [By (Br _),By (Br _),By (Br _),By (KT _ _),By (Br _),By (IB _ _),By (KS _ _ _)]
  exact AA.2 fun _ _=>OS _
theorem ZE {a:Int} {n:Nat} {f:Nat->E6} (h:IsCycle a n f):Dg (ofS a n f) = true:=by
  unfold Dg
  rw [By (show ieq (B6 (ofS a n f).arch (ofS a n f).ne (ofS a n f).E) 0 = true from (Fo h).chk.1)]
  show LI (ofS a n f) (ofS a n (shG n f)) = true
  rw [show ofS a n (shG n f) = ofS a n f by unfold ofS; rw [Aa9 h]]
  exact Wo _
theorem AfN {a b:Int} (h:a = b):ieq a b = true:=by rw [h]; exact IV _
theorem Ju {n:Nat} {h:Nat->Nat}:Bg [.row 3 1 n (fun k=>iV (Int.ofNat (h k)))] = true:=by simp [Bg]; exact fun _ _=>rfl
theorem O7:Bg [.row 3 1 0 (fun _=>V.und)] = true:=by simp [Bg]
theorem AiP {n:Nat} (h:AL n = true):Ca n = true:=by
  have:n * 40 <= _:=of_decide_eq_true h
  exact decide_eq_true (by omega)
theorem Fn {q:Nat} {ln:Nat->Nat}:∀ (_ _:Unit),(An q fun i=>An (ln i) fun _=>true) = true:=fun _ _=>AA.2 fun _ _=>AA.2 fun _ _=>rfl
def Ab4:List V->T (V × List Blk)
  | [.val (.int .i64 _),v]=>apL v fun n _=>.br (AL n) (out (bV true)) .fail
  | _=>.fail
theorem Ab3 {a:Int} {n:Nat} (f:Nat->E6) (hn:n * 40 <= 140737488351232):(Ab4 [iV a,A2 n f]).sem = some (bV true,[]):=by
  show (apL (A2 n f) fun n f=>T.br (AL n) (out (bV true)) .fail).sem = _
  rw [Agf]
  have hn:AL n = true:=decide_eq_true (by omega)
  simp only [hn]
  rfl
end Go.Proofs.Ytjhnfomefcngfaa.Sh
namespace Go.Proofs.Ytjhnfomefcngfaa.Sh
open Go.Sy Ed
set_option maxHeartbeats 1000000
set_option maxRecDepth 4000
end Go.Proofs.Ytjhnfomefcngfaa.Sh
namespace Go.Proofs.Ytjhnfomefcngfaa.Ed
open Go.Sy Go
open Int (ofNat)
def lp59 (n:Nat) (f:Nat->Int) (k:Int):Lp:=⟨(bmK 19 0 [0,1,4,5]),0,bmK 19 0 [4],0,n+1⟩
def st59 (n:Nat) (f:Nat->Int) (k:Int) (i:Nat) (j:Nat->V):St:=⟨(jsV 19 0 j [(0,.sl 1 n fun k=>iV (f k)),(1,iV k),(4,bV false),(5,nV i)]),[]⟩
def en59e (n:Nat) (f:Nat->Int) (k:Int) (i:Nat):Ex × St:=(.ex 0,⟨(jsV 19 0 (fun _=>.und) [(4,bV false)]),[]⟩)
noncomputable def body59 (L:LT):St->T (Ex × St):=fun st=>A9 tab ⟨Ao tb0,L,Gl⟩ (Av Try.f30 0) 0 st
section
variable (L:LT) (n:Nat) (f:Nat->Int) (k:Int) (i:Nat)  (j:Nat->V)
include L n f k i j
theorem Aif (h0:ilt (ofNat i) (ofNat n) = false):Ai (body59 L) (lp59 n f k) (st59 n f k i j) = some ((.ex 0),⟨(jsV 19 0 (fun _=>.und) [(4,(bV false))]),[]⟩):=Aa [false] [ilt (ofNat i) (ofNat n)] (by kernel_rfl) (by simp only [h0] <;> rfl)
theorem Aie (h0:ilt (ofNat i) (ofNat n) = true) (h14:ile 0 (ofNat i) = true) (h1:ieq (f i) (wr .i64 (As (-1000000) k)) = true):Ai (body59 L) (lp59 n f k) (st59 n f k i j) = some (.nm,⟨(jsV 19 0 (fun _=>.und) [(0,(.sl 1 n (fun k=>iV (f k)))),(1,(iV k)),(4,(bV false)),(5,(iV (wr .i64 (Ae (ofNat i) 1))))]),[]⟩):=Aa [true,true,false] [ilt (ofNat i) (ofNat n),Af (ile 0 (ofNat i)) (ilt (ofNat i) (ofNat n)),Am (ieq (f i) (wr .i64 (As (-1000000) k)))] (by kernel_rfl) (by simp only [*] <;> rfl)
end
def AiB (n:Nat) (f:Nat->Int) (k:Int) :Nat->V:=lkV A7 []
theorem Ajl (L:LT) (p0:PT) (n:Nat) (f:Nat->Int) (k:Int) (i:Nat)  (hp0:p0 (body59 (onP 0 p0 (en59e n f k i) L)) (st59 n f k 0 (AiB n f k )) = true):(A1 (Al tab ⟨Ao tb0,onP 0 p0 (en59e n f k i) L,Gl⟩ Try.f30 [DW n f,iV k] [])).sem = some ((bV true),[]):=Aa [true] [p0 (body59 (onP 0 p0 (en59e n f k i) L)) (st59 n f k 0 (AiB n f k ))] (by kernel_rfl) (by simp only [hp0] <;> rfl)
theorem run59 (L:LT) (n:Nat) (f:Nat->Int) (k:Int) (hn:n <= 4611686018427387904) (hf:∀ i,i < n->ieq (f i) (wr .i64 (As (-1000000) k)) = true):∀ (d i:Nat) (j:Nat->V) (q:Nat),n = i+d->d < q ->
    (A3 (body59 L) (lp59 n f k) q (st59 n f k i j)).sem = some (en59e n f k n)
  | 0,i,j,q+1,h,_=>by
    have:n = i:=by omega
    subst this
    exact Ab (Aif L n f k n j (A8 (Nat.le_refl _)))
  | d+1,i,j,q+1,h,h2=>by
    have hi:i < n:=by omega
    rw [Ab (Aie L n f k i j (ofNat_lt hi) (NF i) (hf i hi)),Aw,Aq hi (by omega)]
    exact run59 L n f k hn hf d (i+1) (fun _=>.und) q (by omega) (by omega)
def Uu:List V->T (V × List Blk)
  | [v,.val (.int .i64 k)]=>apI v fun n f=>.br (Ah n) (.br (An n fun i=>ieq (f i) (wr .i64 (As (-1000000) k))) (out (bV true)) .fail) .fail
  | _=>.fail
theorem p59:AD Try.prog Gl 30 Uu:=by
  refine A5 AO AP Try.func30 (by kernel_rfl) (by kernel_rfl) fun vs v h' h=>?_
  unfold Uu at h
  split at h
  · rename_i u k
    obtain ⟨n,f,ha,h1⟩:=FA h
    obtain ⟨hn,h2⟩:=Ag h1
    obtain ⟨hf,h3⟩:=Ag h2
    have:=Ac h3
    simp only [Prod.mk.injEq] at this
    obtain ⟨rfl,rfl⟩:=this
    have hA:BA [u,iV k] [DW n f,iV k]:=fun S w cs hv=>by
      obtain ⟨c,l,rfl,q1,q2⟩:=hv
      exact ⟨c,l,rfl,ha S w c q1,q2⟩
    have hn:n <= 4611686018427387904:=of_decide_eq_true hn
    have hx:=AQ CU [(0,lp59 n f k)]
    have hL:=AC [(0,lp59 n f k)]
    exact ⟨_,AR Gl tb0 [(0,lp59 n f k)],_,hA,rfl,hx.1,hx.2,A6 (Ax hL hL) _ (Ajl _ _ n f k n (Ak (run59 _ n f k hn (fun i hi=>AA.1 hf i hi) n 0 _ (n+1) (by omega) (by omega)))),AB.refl _⟩
  · cases h
end Go.Proofs.Ytjhnfomefcngfaa.Ed
namespace Go.Proofs.Ytjhnfomefcngfaa.Sh
open Go.Sy Ed
set_option maxHeartbeats 1000000
set_option maxRecDepth 4000
theorem Wj {n:Nat} {P:Nat->Bool} (h:Ah n = true):Ah (Aj P n) = true:=by
  have h1:n <= 4611686018427387904:=of_decide_eq_true h
  exact decide_eq_true (Nat.le_trans (Bd P n) h1)
end Go.Proofs.Ytjhnfomefcngfaa.Sh
