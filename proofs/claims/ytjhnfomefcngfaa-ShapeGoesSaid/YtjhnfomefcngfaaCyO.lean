/-
  Canon and Same, and the law CycleApart as a function: two lists are one another turned just if their least turned lists are the same. No conditions.
-/
import Derived.Test.YtjhnfomefcngfaaCyL
namespace Go.Proofs.Ytjhnfomefcngfaa.Ed
open Go.Sy
open Int (ofNat)
theorem growGet_eq (n m:Nat) (gx g:Nat->V) (i:Nat) (h:i < n+m):growGet n m gx g i = bif Nat.blt i n then gx i else g (i - n):=by
  cases hb:Nat.blt i n with
  | true=>exact growGet_lt n m gx g i (Nat.blt_eq ▸ hb)
  | false =>
    have h1:n <= i:=by
      rcases Nat.lt_or_ge i n with h2 | h2
      · rw [show Nat.blt i n = true from Nat.blt_eq ▸ h2] at hb; cases hb
      · exact h2
    have:=growGet_ge n m gx g (i - n) (by omega)
    rw [show n+(i - n) = i by omega] at this
    exact this
theorem turned_row {α:Type} (n k:Nat) (z:Nat->V) (h:Nat->α) (e:α->V) (hk:k < n ∨ n = 0 ∧ k = 0):nadd (nadd 0 (nsub n k)) k = n ∧ ∀ j,j < n ->
    growGet (nadd 0 (nsub n k)) k (growGet 0 (nsub n k) z (fun i=>e (h (nadd k i)))) (fun i=>e (h i)) j = e (h ((k+j) % n)):=by
  have h1:nadd 0 (nsub n k) = n - k:=by simp [nadd,nsub]
  have h2:nsub n k = n - k:=rfl
  refine ⟨by rw [h1]; show n - k+k = n; omega,fun j hj=>?_⟩
  rw [h1,h2,growGet_eq _ _ _ _ j (by omega)]
  cases hb:Nat.blt j (n - k) with
  | true =>
    have hb:j < n - k:=Nat.blt_eq ▸ hb
    show growGet 0 (n - k) z (fun i=>e (h (nadd k i))) j = _
    rw [growGet_eq _ _ _ _ j (by omega)]
    show e (h (k+(j - 0))) = _
    rw [Nat.mod_eq_of_lt (by omega),Nat.sub_zero]
  | false =>
    have hb:n - k <= j:=by
      rcases Nat.lt_or_ge j (n - k) with h3 | h3
      · rw [show Nat.blt j (n - k) = true from Nat.blt_eq ▸ h3] at hb; cases hb
      · exact h3
    show e (h (j - (n - k))) = _
    rw [show k+j = j - (n - k)+n by omega,Nat.add_mod_right,Nat.mod_eq_of_lt (by omega)]
def fit8 (n:Nat):Bool:=decide (n * 8 <= 140737488355328)
theorem fit8_small {n:Nat} (h:fit8 n = true):n <= 4611686018427387904:=by
  have h:n * 8 <= 140737488355328:=of_decide_eq_true h
  omega
theorem fit8_l {n:Nat} (h:fit8 n = true):fitL n = true:=by
  have h:n * 8 <= 140737488355328:=of_decide_eq_true h
  exact decide_eq_true (by omega)
theorem fitN_8 {n:Nat} (h:fitN n = true):fit8 n = true:=by
  have h:n * 40 <= 140737488355328:=of_decide_eq_true h
  exact decide_eq_true (by omega)
theorem leastG_le (n:Nat) (h:Nat->Int):∀ q i t s,leastG n h q i t s <= n - 1
  | 0,_,_,_=>Nat.zero_le _
  | q+1,i,t,s=>by
    unfold leastG
    split
    · omega
    · split
      · exact leastG_le n h q _ _ _
      · split <;> exact leastG_le n h q _ _ _
theorem leastN_le (n:Nat) (h:Nat->Int):leastN n h <= n - 1:=leastG_le n h _ _ _ _
theorem leastN_ok (n:Nat) (h:Nat->Int):leastN n h < n ∨ n = 0 ∧ leastN n h = 0:=by
  have:=leastN_le n h
  omega
def lp101 (n:Nat) (f:Nat->E6):Lp:=⟨(bmK 28 0 [0,2,3,4,9,10,11]),2,(bmK 28 0 [2,3,4]),4,n+1⟩
def st101 (n:Nat) (f:Nat->E6) (i k:Nat) (x:Nat->V) (j:Nat->V):St:=⟨(jsV 28 0 j [(0,.sl 6 n fun i=>eV (f i)),(2,.ref 0),(3,iV 0),(4,.ref 1),(9,.sl 6 n fun i=>eV (f i)),(10,nV n),(11,nV i)]),[.row 3 1 0 fun _=>.und,.row 3 1 k x]⟩
def en101a (n:Nat) (f:Nat->E6) (i k:Nat) (x:Nat->V):Ex × St:=(.ex 0,⟨(jsV 28 0 (fun _=>.und) [(2,.ref 0),(3,iV 0),(4,.ref 1)]),[.row 3 1 0 fun _=>.und,.row 3 1 k x]⟩)
def en101b (n:Nat) (f:Nat->E6) (i k:Nat) (x:Nat->V):Ex × St:=(.rt,⟨(jsV 28 0 (fun _=>.und) [(2,.ref 3),(3,iV 30),(4,.ref 1)]),[.row 3 1 0 fun _=>.und,.row 3 1 k x,.cells [(iV ((f i)).kind),(bV ((f i)).ext),(bV ((f i)).same),(iV ((f i)).src),(iV ((f i)).dst),(iV ((f i)).fence)],.row 3 1 0 fun _=>.und]⟩)
noncomputable def body101 (L:LT):St->T (Ex × St):=fun st=>evalC tab ⟨callT tb8,L,Gl⟩ (loopBody Try.f89 0) 0 st
theorem round101 (L:LT) (n:Nat) (f:Nat->E6) (i k:Nat) (x:Nat->V) (j:Nat->V):roundT (body101 L) (lp101 n f) (st101 n f i k x j)
 = (sel (ilt (ofNat i) (ofNat n)) (sel (band (ile 0 (ofNat i)) (ilt (ofNat i) (ofNat n))) (sel (bnot (ieq (codeF (f i)) 0)) (some (.rt,⟨[.und,.und,(.ref 3),(iV 30),(.ref 1),.und,.und,.und,.und,.und,.und,.und,.und,.und,.und,.und,.und,.und,.und,.und,.und,.und,.und,.und,.und,.und,.und,.und],[(.row 3 1 0 (fun _=>.und)),(.row 3 1 k x),(.cells [(iV ((f i)).kind),(bV ((f i)).ext),(bV ((f i)).same),(iV ((f i)).src),(iV ((f i)).dst),(iV ((f i)).fence)]),(.row 3 1 0 (fun _=>.und))]⟩)) (sel (apOK k 1 8) (some (.nm,⟨[(.sl 6 n (fun i=>(eV (f i)))),.und,(.ref 0),(iV 0),(.ref 1),.und,.und,.und,.und,(.sl 6 n (fun i=>(eV (f i)))),(nV n),(iV (wr .i64 (iadd (ofNat i) 1))),.und,.und,.und,.und,.und,.und,.und,.und,.und,.und,.und,.und,.und,.und,.und,.und],[(.row 3 1 0 (fun _=>.und)),(.row 3 1 (nadd k 1) (pushGet k x (iV (codeN (f i)))))]⟩)) none)) none) (some ((.ex 0),⟨[.und,.und,(.ref 0),(iV 0),(.ref 1),.und,.und,.und,.und,.und,.und,.und,.und,.und,.und,.und,.und,.und,.und,.und,.und,.und,.und,.und,.und,.und,.und,.und],[(.row 3 1 0 (fun _=>.und)),(.row 3 1 k x)]⟩))):=by kernel_rfl
def jk101 (n:Nat) (f:Nat->E6) :Nat->V:=lkV undefV []
section
variable (L:LT) (p0:PT) (n:Nat) (f:Nat->E6) (i k:Nat) (x:Nat->V)
include L p0 n f i k x
theorem wc101a  (hp0:p0 (body101 (onP 0 p0 (en101a n f i k x) L)) (st101 n f 0 0 (fun _=>.und) (jk101 n f )) = true):(finF (evalF tab ⟨callT tb8,(onP 0 p0 (en101a n f i k x) L),Gl⟩ Try.f89 [edgesV n f] [])).sem = some ((.tup [(.ref 0),(iV 0)]),[(.row 3 1 k x)]):=by
  exact sem_of_path (ds:=[true]) (cs:=[(p0 (body101 (onP 0 p0 (en101a n f i k x) L)) (st101 n f 0 0 (fun _=>.und) (jk101 n f )))]) (by kernel_rfl) (by simp only [hp0] <;> rfl)
theorem wc101b  (hp0:p0 (body101 (onP 0 p0 (en101b n f i k x) L)) (st101 n f 0 0 (fun _=>.und) (jk101 n f )) = true):(finF (evalF tab ⟨callT tb8,(onP 0 p0 (en101b n f i k x) L),Gl⟩ Try.f89 [edgesV n f] [])).sem = some ((.tup [(.ref 0),(iV 30)]),[(.row 3 1 0 (fun _=>.und))]):=by
  exact sem_of_path (ds:=[true]) (cs:=[(p0 (body101 (onP 0 p0 (en101b n f i k x) L)) (st101 n f 0 0 (fun _=>.und) (jk101 n f )))]) (by kernel_rfl) (by simp only [hp0] <;> rfl)
end
theorem run101a (L:LT) (n:Nat) (f:Nat->E6) (hn:fitN n = true) (ho:∀ t,t < n->codeF (f t) = 0):∀ (d i:Nat) (j:Nat->V) (q:Nat),n = i+d->d < q ->
    (iterT (body101 L) (lp101 n f) q (st101 n f i i (pushN (cdV f) i) j)).sem = some (en101a n f 0 n (pushN (cdV f) n))
  | 0,i,j,q+1,h1,_=>by
    have hi:i = n:=by omega
    subst hi
    rw [iter_round (round101 L i f i i _ j),ofNat_ge (Nat.le_refl i)]
    rfl
  | d+1,i,j,q+1,h1,h2=>by
    have hi:i < n:=by omega
    rw [iter_round (round101 L n f i i _ j),ofNat_in hi,ofNat_lt hi,ap_fit hi (by decide) (of_decide_eq_true hn),succ_wr hi (fit_small hn),ho i hi]
    exact run101a L n f hn ho d (i+1) (fun _=>.und) q (by omega) (by omega)
theorem run101b (L:LT) (n:Nat) (f:Nat->E6) (hn:fitN n = true) (e:Nat) (he:e < n) (hb:codeF (f e) = 30) (ho:∀ t,t < e->codeF (f t) = 0):∀ (d i:Nat) (j:Nat->V) (q:Nat),e = i+d->d < q ->
    (iterT (body101 L) (lp101 n f) q (st101 n f i i (pushN (cdV f) i) j)).sem = some (en101b n f e e (pushN (cdV f) e))
  | 0,i,j,q+1,h1,_=>by
    have hi:i = e:=by omega
    subst hi
    rw [iter_round (round101 L n f i i _ j),ofNat_in he,ofNat_lt he,hb]
    rfl
  | d+1,i,j,q+1,h1,h2=>by
    have hi:i < n:=by omega
    rw [iter_round (round101 L n f i i _ j),ofNat_in hi,ofNat_lt hi,ap_fit hi (by decide) (of_decide_eq_true hn),succ_wr hi (fit_small hn),ho i (by omega)]
    exact run101b L n f hn e he hb ho d (i+1) (fun _=>.und) q (by omega) (by omega)
theorem p101:PureC Try.prog Gl 89 codesT:=by
  refine pureC_intro tabOK mixed Try.func89 (by kernel_rfl) (by kernel_rfl) fun vs v h' h=>?_
  obtain ⟨n,f,ha,h⟩:=apL1_some h
  obtain ⟨hn,h⟩:=sem_br_fail h
  have hx:=cx_ok tb8_ok [(0,lp101 n f)]
  cases hm:mayN n f with
  | true =>
    rw [hm] at h
    have:=sem_leaf h
    simp only [Prod.mk.injEq] at this
    obtain ⟨rfl,rfl⟩:=this
    exact ⟨_,cx9 [(0,lp101 n f)],_,ha,rfl,hx.1,hx.2,told_le (onP_le (loopsBy_le _) (loopsBy_le _)) _ (wc101a _ _ n f 0 n _ (isP_true (run101a _ n f hn (mayN_iff.1 hm) n 0 (jk101 n f) (n+1) (by omega) (by omega)))),
      RowsLE.one fun j hj=>(pushN_eq (cdV f) n j hj).symm⟩
  | false =>
    rw [hm] at h
    have:=sem_leaf h
    simp only [Prod.mk.injEq] at this
    obtain ⟨rfl,rfl⟩:=this
    obtain ⟨e,h1,h2,h3⟩:=may_no hm
    have hw:=told_le (onP_le (loopsBy_le _) (loopsBy_le _)) _ (wc101b (loopsBy [(0,lp101 n f)]) _ n f e e _ (isP_true (run101b _ n f hn e h1 h2 h3 e 0 (jk101 n f) (n+1) (by omega) (by omega))))
    exact ⟨_,cx9 [(0,lp101 n f)],_,ha,rfl,hx.1,hx.2,hw,RowsLE.refl _⟩
theorem ap_ok {n m b:Nat} (h:(n+m) * b <= 140737488355328):apOK n m b = true:=decide_eq_true h
noncomputable def tb65:List (Nat × (List V->T (V × List Blk))):=(89,codesT) :: (90,leastT) :: []
theorem tb65_ok:AllPure Try.prog Gl tb65:=.cons p101 <| .cons p102 .nil
def row65 (n:Nat) (f:Nat->E6) (k:Nat):Blk:=.row 44 6 (nadd (nadd 0 (nsub n k)) k) (growGet (nadd 0 (nsub n k)) k (growGet 0 (nsub n k) (fun _=>eV zeroE) (fun i=>eV (f (nadd k i)))) (fun i=>eV (f i)))
section
variable (L:LT) (n:Nat) (f:Nat->E6)
include L n f
theorem wc65n (h0:fitN n = true) (h1:mayN n f = false):(finF (evalF tab ⟨callT tb65,L,Gl⟩ Try.f51 [edgesV n f] [])).sem = some ((.tup [(.ref 0),(iV 30)]),[(.row 44 6 0 (fun _=>.und))]):=by
  exact sem_of_path (ds:=[true,true,false,true]) (cs:=[(allN n (fun _=>true)),(fitN n),(mayN n f),(bnot (ieq 30 0))]) (by kernel_rfl) (by simp only [h0,h1,allN_true] <;> rfl)
theorem wc65y (h0:fitN n = true) (h1:mayN n f = true) (h2:fitL n = true) (h3:mkOK 40 0 (ofNat n) = true) (h13:band (ile 0 (ofNat (leastN n (fun i=>(codeN (f i)))))) (ile (ofNat (leastN n (fun i=>(codeN (f i))))) (ofNat n)) = true) (h14:apOK 0 (nsub n (leastN n (fun i=>(codeN (f i))))) 40 = true) (h15:apOK (nadd 0 (nsub n (leastN n (fun i=>(codeN (f i)))))) (leastN n (fun i=>(codeN (f i)))) 40 = true):(finF (evalF tab ⟨callT tb65,L,Gl⟩ Try.f51 [edgesV n f] [])).sem = some ((.tup [(.ref 0),(iV 0)]),[row65 n f (leastN n (fun i=>(codeN (f i))))]):=by
  exact sem_of_path (ds:=bbK 11 2039) (cs:=((fun c0 c1=>[c0,(fitN n),(mayN n f),(bnot (ieq 0 0)),c0,(fitL n),(mkOK 40 0 (ofNat n)),c1,(apOK 0 (nsub n (leastN n (fun i=>(codeN (f i))))) 40),c1,(apOK (nadd 0 (nsub n (leastN n (fun i=>(codeN (f i)))))) (leastN n (fun i=>(codeN (f i)))) 40)]) (allN n (fun _=>true)) (band (ile 0 (ofNat (leastN n (fun i=>(codeN (f i)))))) (ile (ofNat (leastN n (fun i=>(codeN (f i))))) (ofNat n))))) (by kernel_rfl) (by simp only [h13] <;> simp only [h0,h1,h2,h3,h14,h15,allN_true] <;> rfl)
end
def canF (n:Nat) (f:Nat->E6) (i:Nat):E6:=f ((leastN n (fun i=>codeN (f i))+i) % n)
def canonT:List V->T (V × List Blk):=apL1 fun n f=>.br (fitN n) (.br (mayN n f) (.leaf (.tup [.ref 0,iV 0],[.row 44 6 n fun i=>eV (canF n f i)])) (.leaf (.tup [.ref 0,iV 30],[.row 44 6 0 fun _=>.und]))) .fail
theorem p65:PureC Try.prog Gl 51 canonT:=by
  refine pureC_intro tabOK mixed Try.func51 (by kernel_rfl) (by kernel_rfl) fun vs v h' h=>?_
  obtain ⟨n,f,ha,h⟩:=apL1_some h
  obtain ⟨hn,h⟩:=sem_br_fail h
  have hx:=cx_ok tb65_ok []
  cases hm:mayN n f with
  | true =>
    rw [hm] at h
    have:=sem_leaf h
    simp only [Prod.mk.injEq] at this
    obtain ⟨rfl,rfl⟩:=this
    have hn':n * 40 <= 140737488355328:=of_decide_eq_true hn
    have hk:=leastN_ok n (fun i=>codeN (f i))
    have e3:∀ k,nadd 0 (nsub n k) = n - k:=fun k=>by simp [nadd,nsub]
    have hw:=wc65y (loopsBy []) n f hn hm (fit8_l (fitN_8 hn)) (by
        simp only [mkOK,Bool.and_eq_true,decide_eq_true_eq,Int.ofNat_eq_natCast]; omega) (by
        rw [ile_nat,show (0:Int) = ofNat 0 from rfl,ile_nat]; simp [band]; omega) (by
        exact ap_ok (by show (0+(n - leastN n (fun i=>codeN (f i)))) * 40 <= _; omega)) (by
        rw [e3]; exact ap_ok (by omega))
    obtain ⟨r1,r2⟩:=turned_row n (leastN n (fun i=>codeN (f i))) (fun _=>eV zeroE) f eV hk
    unfold row65 at hw
    rw [r1] at hw
    exact ⟨_,cxOf Gl tb65 [],_,ha,rfl,hx.1,hx.2,hw,RowsLE.one fun j hj=>(r2 j hj).symm⟩
  | false =>
    rw [hm] at h
    have:=sem_leaf h
    simp only [Prod.mk.injEq] at this
    obtain ⟨rfl,rfl⟩:=this
    exact ⟨_,cxOf Gl tb65 [],_,ha,rfl,hx.1,hx.2,wc65n _ n f hn hm,RowsLE.refl _⟩
def firstQ (q:Nat->Bool):Nat->Nat->Option Nat
  | 0,_=>none
  | d+1,i=>match q i with
    | true=>some i
    | false=>firstQ q d (i+1)
theorem firstQ_t {q:Nat->Bool} {d i:Nat} (h:q i = true):firstQ q (d+1) i = some i:=by rw [firstQ,h]
theorem firstQ_f {q:Nat->Bool} {d i:Nat} (h:q i = false):firstQ q (d+1) i = firstQ q d (i+1):=by rw [firstQ,h]
theorem ieq_eq {a b:Int} (h:ieq a b = true):a = b:=by simpa [ieq] using h
end Go.Proofs.Ytjhnfomefcngfaa.Ed
