/-
  Lent, Kept. No conditions.
-/
import Derived.Test.YtjhnfomefcngfaaCyO
namespace Go.Proofs.Ytjhnfomefcngfaa.Ed
open Go.Sy
open Int (ofNat)
theorem PureC.val {P:Program} {G:Nat->V} {f:FuncId} {F F':List V->T (V × List Blk)} (h:PureC P G f F)
    (hF:∀ vs r,(F' vs).sem = some r->∃ v0,(F vs).sem = some (v0,r.2) ∧ ∀ S w κ c,VR S w v0 κ c->VR S w r.1 κ c):PureC P G f F':=by
  refine ⟨h.1,fun vs cs S w v h' hS hE hv he=>?_⟩
  obtain ⟨v0,h1,h2⟩:=hF vs (v,h') he
  obtain ⟨h3,h4⟩:=h.2 vs cs S w v0 h' hS hE hv h1
  refine ⟨h3,h4.mono ?_⟩
  rintro e w' ⟨c,κ',S',q1,q2,q3,q4⟩
  exact ⟨c,κ',S',q1,q2,h2 _ _ _ _ q3,q4⟩
def markI (k:Int):E6:=⟨-77,true,ieq (itmod k 2) 0,wr .i64 (iadd 1000 k),-5,99⟩
def markT:List V->T (V × List Blk)
  | [.val (.int .i64 k)]=>out (eV (markI k))
  | _=>.fail
theorem wc85 (L:LT) (k:Int) :(finF (evalF tab ⟨callT tb0,L,Gl⟩ Try.f49 [iV k] [])).sem = some ((.agg [(iV (-77)),(bV true),(bV (ieq (itmod k 2) 0)),(iV (wr .i64 (iadd 1000 k))),(iV (-5)),(iV 99)]),[]):=by
  exact sem_of_path (ds:=[]) (cs:=[]) (by kernel_rfl) (by rfl)
theorem p85:PureC Try.prog Gl 49 markT:=by
  refine pureC_intro tabOK mixed Try.func49 (by kernel_rfl) (by kernel_rfl) fun vs v h' h=>?_
  unfold markT at h
  split at h
  · rename_i k
    have:=sem_leaf h
    simp only [Prod.mk.injEq] at this
    obtain ⟨rfl,rfl⟩:=this
    have hx:=cx_ok tb0_ok []
    exact ⟨_,cxOf Gl tb0 [],_,ArgLE.refl _,rfl,hx.1,hx.2,wc85 _ k,RowsLE.refl _⟩
  · cases h
noncomputable def tb47:List (Nat × (List V->T (V × List Blk))):=(49,markT) :: []
theorem tb47_ok:AllPure Try.prog Gl tb47:=.cons p85 .nil
def lentE (n:Nat) (f:Nat->E6) (i:Nat):E6:=bif decide (i < n) then f i else markI (ofNat (i - n))
def lentX (n:Nat) (f:Nat->E6):Nat->Nat->V
  | 0=>growGet 0 n (fun _=>eV zeroE) (fun i=>eV (f i))
  | i+1=>pushGet (n+i) (lentX n f i) (eV (markI (ofNat i)))
theorem lentX_succ (n:Nat) (f:Nat->E6) (i:Nat):lentX n f (i+1) = pushGet (n+i) (lentX n f i) (eV (markI (ofNat i))):=rfl
theorem lentX_eq (n:Nat) (f:Nat->E6):∀ i j,j < n+i->lentX n f i j = eV (lentE n f j)
  | 0,j,h=>by
    rw [lentX,growGet_eq 0 n _ _ j (by omega)]
    show eV (f (j - 0)) = _
    rw [lentE,decide_eq_true (show j < n by omega)]
    rfl
  | i+1,j,h=>by
    rw [lentX_succ,pushGet_eq]
    by_cases hj:j = n+i
    · subst hj
      rw [Nat.beq_refl,lentE,decide_eq_false (show ¬ n+i < n by omega),show n+i - n = i by omega]
      rfl
    · rw [show Nat.beq j (n+i) = false by
        cases hb:Nat.beq j (n+i)
        · rfl
        · exact absurd (Nat.eq_of_beq_eq_true hb) hj]
      exact lentX_eq n f i j (by omega)
def lp47 (n:Nat) (f:Nat->E6):Lp:=⟨(bmK 25 0 [0,2,3,4]),2,(bmK 25 0 [0,2,3]),2,41⟩
def st47 (n:Nat) (f:Nat->E6) (i k:Nat) (x:Nat->V) (j:Nat->V):St:=⟨(jsV 25 0 j [(0,.sl 6 n (fun i=>(eV (f i)))),(2,.ref 0),(3,.ref 1),(4,nV i)]),[.row 44 6 0 (fun _=>.und),.row 44 6 k x]⟩
def en47e (n:Nat) (f:Nat->E6) (i k:Nat) (x:Nat->V):Ex × St:=(.ex 0,⟨(jsV 25 0 (fun _=>.und) [(0,.sl 6 n (fun i=>(eV (f i)))),(2,.ref 0),(3,.ref 1)]),[.row 44 6 0 (fun _=>.und),.row 44 6 k x]⟩)
noncomputable def body47 (L:LT):St->T (Ex × St):=fun st=>evalC tab ⟨callT tb47,L,Gl⟩ (loopBody Try.f13 0) 0 st
section
variable (L:LT) (n:Nat) (f:Nat->E6) (i k:Nat) (x:Nat->V)  (j:Nat->V)
include L n f i k x j
theorem rc47e (h0:ilt (ofNat i) 40 = false):roundT (body47 L) (lp47 n f) (st47 n f i k x j) = some ((.ex 0),⟨(jsV 25 0 (fun _=>.und) [(0,(.sl 6 n (fun i=>(eV (f i))))),(2,(.ref 0)),(3,(.ref 1))]),[(.row 44 6 0 (fun _=>.und)),(.row 44 6 k x)]⟩):=by
  exact sem_of_path (ds:=[false]) (cs:=[(ilt (ofNat i) 40)]) (by kernel_rfl) (by simp only [h0] <;> rfl)
theorem rc47n (h0:ilt (ofNat i) 40 = true) (h1:apOK k 1 40 = true):roundT (body47 L) (lp47 n f) (st47 n f i k x j) = some (.nm,⟨(jsV 25 0 (fun _=>.und) [(0,(.sl 6 n (fun i=>(eV (f i))))),(2,(.ref 0)),(3,(.ref 1)),(4,(iV (wr .i64 (iadd (ofNat i) 1))))]),[(.row 44 6 0 (fun _=>.und)),(.row 44 6 (nadd k 1) (pushGet k x (eV (markI (ofNat i)))))]⟩):=by
  exact sem_of_path (ds:=[true,true]) (cs:=[(ilt (ofNat i) 40),(apOK k 1 40)]) (by kernel_rfl) (by simp only [h0,h1] <;> rfl)
end
def ent47 (n:Nat) (f:Nat->E6) :St:=⟨(jsV 25 0 (fun _=>undefV) [(0,(.sl 6 n (fun i=>(eV (f i))))),(2,(.ref 0)),(3,(.ref 1)),(4,(iV 0)),(5,(.sl 6 n (fun i=>(eV (f i))))),(6,(nV n)),(7,(iV (wr .i64 (iadd (ofNat n) 40)))),(8,.und),(9,.und),(10,(.sl 6 n (fun i=>(eV (f i))))),(11,(.ref 1))]),[(.row 44 6 0 (fun _=>.und)),(.row 44 6 (nadd 0 n) (growGet 0 n (fun _=>eV zeroE) (fun i=>eV (f i))))]⟩
theorem wc47 (L:LT) (p0:PT) (n:Nat) (f:Nat->E6) (i k:Nat) (x:Nat->V) (h0:mkOK 40 0 (wr .i64 (iadd (ofNat n) 40)) = true) (h1:apOK 0 n 40 = true) (h2:band (ile 0 (ofNat n)) (ile (ofNat n) (ofNat k)) = true) (hp0:p0 (body47 (onP 0 p0 (en47e n f i k x) L)) (ent47 n f) = true):(finF (evalF tab ⟨callT tb47,(onP 0 p0 (en47e n f i k x) L),Gl⟩ Try.f13 [edgesV n f] [])).sem = some ((.slr 6 n k x),[]):=by
  exact sem_of_path (ds:=[true,true,true,true]) (cs:=[(mkOK 40 0 (wr .i64 (iadd (ofNat n) 40))),(apOK 0 n 40),(p0 (body47 (onP 0 p0 (en47e n f i k x) L)) (ent47 n f)),(band (ile 0 (ofNat n)) (ile (ofNat n) (ofNat k)))]) (by kernel_rfl) (by simp only [hp0] <;> simp only [h2] <;> simp only [h0,h1] <;> rfl)
theorem run47 (L:LT) (n:Nat) (f:Nat->E6) (h8:(n+60) * 40 <= 140737488355328) (X:Nat->Nat->V) (hX:∀ i,pushGet (n+i) (X i) (eV (markI (ofNat i))) = X (i+1)) (c:Nat) (hc:c = 40):∀ (d i:Nat) (j:Nat->V) (q:Nat),c = i+d->d < q ->
    (iterT (body47 L) (lp47 n f) q (st47 n f i (n+i) (X i) j)).sem = some (en47e n f c (n+c) (X c))
  | 0,i,j,q+1,h,_=>by
    have:c = i:=by omega
    subst this
    have hl:ilt (ofNat c) 40 = false:=by rw [show (40:Int) = ofNat 40 from rfl,ilt_nat,decide_eq_false (by omega)]
    exact iter_round (rc47e L n f c (n+c) (X c) j hl)
  | d+1,i,j,q+1,h,h2=>by
    have hl:ilt (ofNat i) 40 = true:=by rw [show (40:Int) = ofNat 40 from rfl,ilt_nat,decide_eq_true (by omega)]
    have hi:i < 40:=by omega
    have h9:(n+i+1) * 40 <= 140737488355328:=Nat.le_trans (Nat.mul_le_mul_right 40 (show n+i+1 <= n+60 by omega)) h8
    have ha:apOK (n+i) 1 40 = true:=decide_eq_true h9
    rw [iter_round (rc47n L n f i (n+i) (X i) j hl ha),goOn_nm,succ_wr (show i < 40 by omega) (by decide),hX]
    exact run47 L n f h8 X hX c hc d (i+1) (fun _=>.und) q (by omega) (by omega)
def lent0:List V->T (V × List Blk):=apL1 fun n f=>.br (fitN (nadd n 60)) (out (.slr 6 n (n+40) (lentX n f 40))) .fail
def lentT:List V->T (V × List Blk):=apL1 fun n f=>.br (fitN (nadd n 60)) (out (.slr 6 n (nadd n 40) (fun i=>eV (lentE n f i)))) .fail
theorem ent47_eq (n:Nat) (f:Nat->E6):ent47 n f = st47 n f 0 (nadd 0 n) (lentX n f 0) (fun i=>nth (ent47 n f).t i):=by kernel_rfl
theorem p47a:PureC Try.prog Gl 13 lent0:=by
  refine pureC_intro tabOK mixed Try.func13 (by kernel_rfl) (by kernel_rfl) fun vs v h' h=>?_
  obtain ⟨n,f,ha,h1⟩:=apL1_some h
  obtain ⟨hn,hq⟩:=sem_br_fail h1
  have:=sem_leaf hq
  simp only [Prod.mk.injEq] at this
  obtain ⟨rfl,rfl⟩:=this
  have h8:(n+60) * 40 <= 140737488355328:=of_decide_eq_true hn
  have hx:=cx_ok tb47_ok [(0,lp47 n f)]
  have hL:=loopsBy_le [(0,lp47 n f)]
  have h0:∀ L,(loopsBy [(0,lp47 n f)] 0 (body47 L) (ent47 n f)).sem = some (en47e n f 40 (n+40) (lentX n f 40)):=fun L=>by
    show (iterT (body47 L) (lp47 n f) 41 (ent47 n f)).sem = _
    rw [ent47_eq,show nadd 0 n = n+0 by simp [nadd]]
    exact run47 L n f h8 (lentX n f) (fun i=>(lentX_succ n f i).symm) 40 rfl 40 0 _ 41 rfl (by omega)
  have e1:wr .i64 (iadd (ofNat n) 40) = ofNat (n+40):=wr_add (b:=40) (by omega)
  have hk:mkOK 40 0 (wr .i64 (iadd (ofNat n) 40)) = true:=by
    rw [e1]
    simp only [mkOK,Bool.and_eq_true,decide_eq_true_eq,Int.ofNat_eq_natCast]
    omega
  have hb:band (ile 0 (ofNat n)) (ile (ofNat n) (ofNat (n+40))) = true:=by
    rw [ofNat_0,ile_nat,decide_eq_true (by omega)]
    rfl
  exact ⟨_,cxOf Gl tb47 [(0,lp47 n f)],_,ha,rfl,hx.1,hx.2,told_le (onP_le hL hL) _ (wc47 _ _ n f 40 (n+40) (lentX n f 40) hk (ap_ok (by omega)) hb (isP_true (h0 _))),RowsLE.refl _⟩
theorem VR_slr {s n m:Nat} {g g':Nat->V} (h:∀ i,i < m->g' i = g i) {S:Nat->Prop} {w:World} {κ:Nat->Option Value} {c:Value} (hv:VR S w (.slr s n m g) κ c):VR S w (.slr s n m g') κ c:=by
  obtain ⟨a,cap,e,h1,h2,h3⟩:=hv
  refine ⟨a,cap,e,h1,h2,h3.imp id ?_⟩
  rintro ⟨b,o,ea,hel⟩
  refine ⟨b,o,ea,fun i hi=>?_⟩
  rw [h i hi]
  exact hel i hi
theorem p47:PureC Try.prog Gl 13 lentT:=by
  refine PureC.val p47a fun vs r h=>?_
  unfold lentT apL1 at h
  split at h
  · unfold lent0 apL1
    rename_i v
    show ∃ v0,(apL v _).sem = _ ∧ _
    unfold apL at h ⊢
    split at h
    · rename_i n g hg
      obtain ⟨h1,h2⟩:=sem_br_fail h
      obtain ⟨h3,h4⟩:=sem_br_fail h2
      have:=sem_leaf h4
      subst this
      refine ⟨.slr 6 n (n+40) (lentX n (fun i=>edE (g i)) 40),?_,fun S w κ c hv=>VR_slr (fun i hi=>(lentX_eq n _ 40 i hi).symm) hv⟩
      show sel _ (sel _ _ none) none = _
      rw [h1,h3]
      rfl
    · cases h
  · cases h
noncomputable def tb50:List (Nat × (List V->T (V × List Blk))):=(49,markT) :: (60,sameT) :: []
theorem tb50_ok:AllPure Try.prog Gl tb50:=.cons p85 <| .cons p42 .nil
def lp50 (n m:Nat) (g:Nat->E6) (f:Nat->E6):Lp:=⟨(bmK 29 0 [0,1,4,5,6]),0,(bmK 29 0 [0,1,4]),0,41⟩
def st50 (n m:Nat) (g:Nat->E6) (f:Nat->E6) (i:Nat) (j:Nat->V):St:=⟨(jsV 29 0 j [(0,.slr 6 n m (fun i=>eV (g i))),(1,.sl 6 n (fun i=>(eV (f i)))),(4,bV false),(5,.sl 6 (toN (wr .i64 (iadd (ofNat n) 40))) (fun i=>eV (g i))),(6,nV i)]),[]⟩
def en50e (n m:Nat) (g:Nat->E6) (f:Nat->E6) (i:Nat):Ex × St:=(.ex 0,⟨(jsV 29 0 (fun _=>.und) [(0,.slr 6 n m (fun i=>eV (g i))),(1,.sl 6 n (fun i=>(eV (f i)))),(4,bV false)]),[]⟩)
noncomputable def body50 (L:LT):St->T (Ex × St):=fun st=>evalC tab ⟨callT tb50,L,Gl⟩ (loopBody Try.f17 0) 0 st
section
variable (L:LT) (n m:Nat) (g:Nat->E6) (f:Nat->E6) (i:Nat)  (j:Nat->V)
include L n m g f i j
theorem rc50e (h0:ilt (ofNat i) 40 = false):roundT (body50 L) (lp50 n m g f) (st50 n m g f i j) = some ((.ex 0),⟨(jsV 29 0 (fun _=>.und) [(0,(.slr 6 n m (fun i=>(eV (g i))))),(1,(.sl 6 n (fun i=>(eV (f i))))),(4,(bV false))]),[]⟩):=by
  exact sem_of_path (ds:=[false]) (cs:=[(ilt (ofNat i) 40)]) (by kernel_rfl) (by simp only [h0] <;> rfl)
theorem rc50n (h0:ilt (ofNat i) 40 = true) (h1:band (ile 0 (wr .i64 (iadd (ofNat n) (ofNat i)))) (ilt (wr .i64 (iadd (ofNat n) (ofNat i))) (ofNat (toN (wr .i64 (iadd (ofNat n) 40))))) = true) (h2:eqE (g (toN (wr .i64 (iadd (ofNat n) (ofNat i))))) (markI (ofNat i)) = true):roundT (body50 L) (lp50 n m g f) (st50 n m g f i j) = some (.nm,⟨(jsV 29 0 (fun _=>.und) [(0,(.slr 6 n m (fun i=>(eV (g i))))),(1,(.sl 6 n (fun i=>(eV (f i))))),(4,(bV false)),(5,(.sl 6 (toN (wr .i64 (iadd (ofNat n) 40))) (fun i=>(eV (g i))))),(6,(iV (wr .i64 (iadd (ofNat i) 1))))]),[]⟩):=by
  exact sem_of_path (ds:=[true,true,false]) (cs:=[(ilt (ofNat i) 40),(band (ile 0 (wr .i64 (iadd (ofNat n) (ofNat i)))) (ilt (wr .i64 (iadd (ofNat n) (ofNat i))) (ofNat (toN (wr .i64 (iadd (ofNat n) 40)))))),(bnot (eqE (g (toN (wr .i64 (iadd (ofNat n) (ofNat i))))) (markI (ofNat i))))]) (by kernel_rfl) (by simp only [h1] <;> simp only [h0,h2] <;> rfl)
end
def jk50 (n m:Nat) (g:Nat->E6) (f:Nat->E6) :Nat->V:=lkV undefV [(7,(.slr 6 n m (fun i=>(eV (g i))))),(8,(.sl 6 n (fun i=>(eV (f i))))),(9,(nV n)),(10,(iV (wr .i64 (iadd (ofNat n) 40)))),(11,(.sl 6 (toN (wr .i64 (iadd (ofNat n) 40))) (fun i=>(eV (g i)))))]
theorem wc50 (L:LT) (p0:PT) (n m:Nat) (g:Nat->E6) (f:Nat->E6) (i:Nat) (h0:band (ile 0 (wr .i64 (iadd (ofNat n) 40))) (ile (wr .i64 (iadd (ofNat n) 40)) (ofNat m)) = true) (h1:smallN n = true) (hp0:p0 (body50 (onP 0 p0 (en50e n m g f i) L)) (st50 n m g f 0 (jk50 n m g f )) = true):(finF (evalF tab ⟨callT tb50,(onP 0 p0 (en50e n m g f i) L),Gl⟩ Try.f17 [.slr 6 n m (fun i=>eV (g i)),edgesV n f] [])).sem = some ((bV (sameB n g n f)),[]):=by
  exact sem_of_path (ds:=[true,true,true,true,true]) (cs:=[(band (ile 0 (wr .i64 (iadd (ofNat n) 40))) (ile (wr .i64 (iadd (ofNat n) 40)) (ofNat m))),(p0 (body50 (onP 0 p0 (en50e n m g f i) L)) (st50 n m g f 0 (jk50 n m g f ))),(allN n (fun _=>true)),(allN n (fun _=>true)),(smallN n)]) (by kernel_rfl) (by simp only [hp0] <;> simp only [h0] <;> simp only [h1,allN_true] <;> rfl)
def keptB (n m:Nat) (g:Nat->E6) (k:Nat) (f:Nat->E6):Bool:=decide (n = k) && (decide (m = n+40) && (allN n (fun i=>eqE (g i) (f i)) && allN 40 fun i=>eqE (g (n+i)) (markI (ofNat i))))
theorem run50 (L:LT) (n m:Nat) (g f:Nat->E6) (hn:(n+60) * 40 <= 140737488355328) (hg:∀ i,i < 40->g (n+i) = markI (ofNat i)):∀ (d i:Nat) (j:Nat->V) (q:Nat),40 = i+d->d < q ->
    (iterT (body50 L) (lp50 n m g f) q (st50 n m g f i j)).sem = some (en50e n m g f 40)
  | 0,i,j,q+1,h,_=>by
    have:i = 40:=by omega
    subst this
    exact iter_round (rc50e L n m g f 40 j rfl)
  | d+1,i,j,q+1,h,h2=>by
    have hi:i < 40:=by omega
    have hl:ilt (ofNat i) 40 = true:=by rw [show (40:Int) = ofNat 40 from rfl,ilt_nat,decide_eq_true hi]
    have e1:wr .i64 (iadd (ofNat n) (ofNat i)) = ofNat (n+i):=wr_add (by omega)
    have e2:wr .i64 (iadd (ofNat n) 40) = ofNat (n+40):=wr_add (b:=40) (by omega)
    have hb:band (ile 0 (wr .i64 (iadd (ofNat n) (ofNat i)))) (ilt (wr .i64 (iadd (ofNat n) (ofNat i))) (ofNat (toN (wr .i64 (iadd (ofNat n) 40))))) = true:=by
      rw [e1,e2]; exact ofNat_in (show n+i < n+40 by omega)
    have hq:eqE (g (toN (wr .i64 (iadd (ofNat n) (ofNat i))))) (markI (ofNat i)) = true:=by
      rw [e1,show toN (ofNat (n+i)) = n+i from rfl,hg i hi]
      exact eqE_self _
    rw [iter_round (rc50n L n m g f i j hl hb hq),goOn_nm,succ_wr hi (by decide)]
    exact run50 L n m g f hn hg d (i+1) (fun _=>.und) q (by omega) (by omega)
def keptT:List V->T (V × List Blk)
  | [.slr s n m g,v]=>match Nat.beq s 6 with
    | true=>.br (allN m fun i=>okE (g i)) (apL v fun k f=>.br (fitN (nadd n 60)) (.br (keptB n m (fun i=>edE (g i)) k f) (out (bV true)) .fail) .fail) .fail
    | false=>.fail
  | _=>.fail
theorem p50:PureC Try.prog Gl 17 keptT:=by
  refine pureC_intro tabOK mixed Try.func17 (by kernel_rfl) (by kernel_rfl) fun vs v h' h=>?_
  unfold keptT at h
  split at h
  · rename_i s n m g u
    split at h
    · rename_i hs
      have hs:=Nat.eq_of_beq_eq_true hs
      subst hs
      obtain ⟨h1,h2⟩:=sem_br_fail h
      obtain ⟨k,f,ha,h3⟩:=apL_some h2
      obtain ⟨hn,h4⟩:=sem_br_fail h3
      obtain ⟨hk,hq⟩:=sem_br_fail h4
      have:=sem_leaf hq
      simp only [Prod.mk.injEq] at this
      obtain ⟨rfl,rfl⟩:=this
      simp only [keptB,Bool.and_eq_true,decide_eq_true_eq] at hk
      obtain ⟨rfl,rfl,hk1,hk2⟩:=hk
      have hk1:∀ i,i < n->edE (g i) = f i:=fun i hi=>(eqE_iff _ _).1 (allN_iff.1 hk1 i hi)
      have hk2:∀ i,i < 40->edE (g (n+i)) = markI (ofNat i):=fun i hi=>(eqE_iff _ _).1 (allN_iff.1 hk2 i hi)
      have h8:(n+60) * 40 <= 140737488355328:=of_decide_eq_true hn
      have h1:=allN_iff.1 h1
      have hA:ArgLE [.slr 6 n (n+40) g,u] [.slr 6 n (n+40) (fun i=>eV (edE (g i))),edgesV n f]:=fun S w cs hv=>by
        obtain ⟨c,l,rfl,q1,c2,l2,rfl,q2,q3⟩:=hv
        exact ⟨c,_,rfl,VR_slr (fun i hi=>(okE_spec (h1 i hi)).symm) q1,c2,l2,rfl,ha S w c2 q2,q3⟩
      have hx:=cx_ok tb50_ok [(0,lp50 n (n+40) (fun i=>edE (g i)) f)]
      have hL:=loopsBy_le [(0,lp50 n (n+40) (fun i=>edE (g i)) f)]
      have e2:wr .i64 (iadd (ofNat n) 40) = ofNat (n+40):=wr_add (b:=40) (by omega)
      have hb:band (ile 0 (wr .i64 (iadd (ofNat n) 40))) (ile (wr .i64 (iadd (ofNat n) 40)) (ofNat (n+40))) = true:=by
        rw [e2,ofNat_0,ile_nat,decide_eq_true (Nat.le_refl _)]
        rfl
      have hw:=told_le (onP_le hL hL) _ (wc50 _ _ n (n+40) (fun i=>edE (g i)) f 40 hb (decide_eq_true (by omega)) (isP_true (run50 _ n (n+40) (fun i=>edE (g i)) f h8 hk2 40 0 _ 41 rfl (by omega))))
      rw [sameB_at.2 ⟨rfl,hk1⟩] at hw
      exact ⟨_,cxOf Gl tb50 [(0,lp50 n (n+40) (fun i=>edE (g i)) f)],_,hA,rfl,hx.1,hx.2,hw,RowsLE.refl _⟩
    · cases h
  · cases h
theorem kept_lent (n:Nat) (f:Nat->E6):keptB n (nadd n 40) (fun i=>lentE n f i) n f = true:=by
  simp only [keptB,Bool.and_eq_true,decide_eq_true_eq]
  refine ⟨trivial,rfl,allN_iff.2 fun i hi=>(eqE_iff _ _).2 ?_,allN_iff.2 fun i hi=>(eqE_iff _ _).2 ?_⟩
  · simp [lentE,hi]
  · show lentE n f (n+i) = markI (ofNat i)
    unfold lentE
    rw [decide_eq_false (show ¬ n+i < n by omega),show n+i - n = i by omega]
    rfl
theorem lentE_lt {n:Nat} {f:Nat->E6} {i:Nat} (h:i < n):lentE n f i = f i:=by simp [lentE,h]
theorem fit60 {n:Nat} (h:fitN (nadd n 60) = true):fitN n = true:=by
  have h:(n+60) * 40 <= 140737488355328:=of_decide_eq_true h
  exact decide_eq_true (by omega)
theorem ieq_rfl (a:Int):ieq a a = true:=by simp [ieq]
end Go.Proofs.Ytjhnfomefcngfaa.Ed
namespace Go.Proofs.Ytjhnfomefcngfaa.Ed
open Go.Sy
open Int (ofNat)
theorem ne_0u {i n:Nat} (h:i < n):ieq (ofNat n) 0 = false:=by rw [show (0:Int) = ofNat 0 from rfl,ieq_nat,decide_eq_false (by omega)]
def rotH (n:Nat) (h:Nat->Int) (p i:Nat):Int:=h ((p+i) % n)
def lexLt (n:Nat) (h:Nat->Int) (p q:Nat):Prop:=∃ s,s < n ∧ (∀ t,t < s->rotH n h p t = rotH n h q t) ∧ rotH n h p s < rotH n h q s
def isMin (n:Nat) (h:Nat->Int) (p:Nat):Prop:=p < n ∧ ∀ q,q < n->¬ lexLt n h q p
theorem lexLt_irrefl {n:Nat} {h:Nat->Int} {p:Nat}:¬ lexLt n h p p:=by
  rintro ⟨s,_,_,h3⟩
  omega
theorem lexLt_trans {n:Nat} {h:Nat->Int} {a b c:Nat} (h1:lexLt n h a b) (h2:lexLt n h b c):lexLt n h a c:=by
  obtain ⟨s,s1,s2,s3⟩:=h1
  obtain ⟨r,r1,r2,r3⟩:=h2
  rcases Nat.lt_trichotomy s r with e | e | e
  · exact ⟨s,s1,fun t ht=>(s2 t ht).trans (r2 t (by omega)),by rw [<- r2 s e]; exact s3⟩
  · subst e
    exact ⟨s,s1,fun t ht=>(s2 t ht).trans (r2 t ht),by omega⟩
  · exact ⟨r,r1,fun t ht=>(s2 t (by omega)).trans (r2 t ht),by rw [s2 r e]; exact r3⟩
theorem lexLt_total (n:Nat) (h:Nat->Int) (p q:Nat):∀ m,m <= n->(∃ s,s < m ∧ (∀ t,t < s->rotH n h p t = rotH n h q t) ∧ rotH n h p s ≠ rotH n h q s) ∨ ∀ t,t < m->rotH n h p t = rotH n h q t
  | 0,_=>.inr fun t ht=>absurd ht (Nat.not_lt_zero t)
  | m+1,hm=>by
    rcases lexLt_total n h p q m (by omega) with ⟨s,h1,h2,h3⟩ | h1
    · exact .inl ⟨s,by omega,h2,h3⟩
    · by_cases e:rotH n h p m = rotH n h q m
      · refine .inr fun t ht=>?_
        by_cases et:t = m
        · rw [et]; exact e
        · exact h1 t (by omega)
      · exact .inl ⟨m,by omega,h1,e⟩
theorem isMin_eq {n:Nat} {h:Nat->Int} {p q:Nat} (hp:isMin n h p) (hq:isMin n h q):∀ t,t < n->rotH n h p t = rotH n h q t:=by
  rcases lexLt_total n h p q n (Nat.le_refl n) with ⟨s,h1,h2,h3⟩ | h1
  · rcases Int.lt_or_gt_of_ne h3 with e | e
    · exact absurd ⟨s,h1,h2,e⟩ (hq.2 p hp.1)
    · exact absurd ⟨s,h1,fun t ht=>(h2 t ht).symm,e⟩ (hp.2 q hq.1)
  · exact h1
theorem exists_min (n:Nat) (h:Nat->Int):∀ m,0 < m->∃ p,p < m ∧ ∀ q,q < m->¬ lexLt n h q p
  | 0,hm=>absurd hm (Nat.lt_irrefl 0)
  | 1,_=>⟨0,by omega,fun q hq=>by
      have:q = 0:=by omega
      subst this
      exact lexLt_irrefl⟩
  | m+2,_=>by
    obtain ⟨p,h1,h2⟩:=exists_min n h (m+1) (by omega)
    by_cases e:lexLt n h (m+1) p
    · refine ⟨m+1,by omega,fun q hq hl=>?_⟩
      by_cases eq:q = m+1
      · subst eq; exact lexLt_irrefl hl
      · exact h2 q (by omega) (lexLt_trans hl e)
    · refine ⟨p,by omega,fun q hq hl=>?_⟩
      by_cases eq:q = m+1
      · subst eq; exact e hl
      · exact h2 q (by omega) hl
theorem rot_mod (n:Nat) (h:Nat->Int) (a u:Nat):rotH n h (a % n) u = h ((a+u) % n):=by
  unfold rotH
  rw [Nat.mod_add_mod]
theorem skip_not {n:Nat} {h:Nat->Int} {i j s:Nat} (hs:s < n) (h1:∀ t,t < s->h ((i+t) % n) = h ((j+t) % n)) (h2:h ((j+s) % n) < h ((i+s) % n)):∀ p,i <= p->p <= i+s->¬ isMin n h p:=by
  intro p hp1 hp2 hm
  obtain ⟨hpn,hm⟩:=hm
  refine hm ((j+(p - i)) % n) (Nat.mod_lt _ (by omega)) ⟨s - (p - i),by omega,fun t ht=>?_,?_⟩
  · rw [rot_mod]
    unfold rotH
    have:=h1 (p - i+t) (by omega)
    rw [show i+(p - i+t) = p+t by omega,show j+(p - i+t) = j+(p - i)+t by omega] at this
    exact this.symm
  · rw [rot_mod]
    unfold rotH
    rw [show j+(p - i)+(s - (p - i)) = j+s by omega,show p+(s - (p - i)) = i+s by omega]
    exact h2
theorem period_min {n:Nat} {h:Nat->Int} {lo hi:Nat} (hlt:lo < hi) (h1:∀ u,u < n->h ((hi+u) % n) = h ((lo+u) % n)) (hno:∀ p,p < n->p < hi->p ≠ lo->¬ isMin n h p):∀ m p,p <= m->isMin n h p->isMin n h lo:=by
  intro m
  induction m with
  | zero =>
    intro p hp hm
    by_cases e:p = lo
    · rw [<- e]; exact hm
    · exact absurd hm (hno p hm.1 (by omega) e)
  | succ m ih =>
    intro p hp hm
    by_cases e:p = lo
    · rw [<- e]; exact hm
    · by_cases hph:p < hi
      · exact absurd hm (hno p hm.1 hph e)
      · have hpn:=hm.1
        have hr:∀ u,u < n->rotH n h p u = rotH n h (p - (hi - lo)) u:=fun u _=>by
          unfold rotH
          have:=h1 ((p - hi+u) % n) (Nat.mod_lt _ (by omega))
          rw [Nat.add_mod_mod,Nat.add_mod_mod,show hi+(p - hi+u) = p+u by omega,show lo+(p - hi+u) = p - (hi - lo)+u by omega] at this
          exact this
        refine ih (p - (hi - lo)) (by omega) ⟨by omega,fun q hq hl=>?_⟩
        obtain ⟨s,s1,s2,s3⟩:=hl
        exact hm.2 q hq ⟨s,s1,fun t ht=>(s2 t ht).trans (hr t (by omega)).symm,by rw [hr s s1]; exact s3⟩
theorem leastG_min (n:Nat) (h:Nat->Int) (hn:0 < n):∀ q i t s,i ≠ t->min i t < n->i <= 2 * n->t <= 2 * n+1->s <= n->(∀ u,u < s->h ((i+u) % n) = h ((t+u) % n)) ->
    (∀ p,p < n->p < max i t->p ≠ min i t->¬ isMin n h p)->3 * n+1 - (i+t+s) < q->isMin n h (leastG n h q i t s):=by
  intro q
  obtain ⟨p0,hp0⟩:∃ p,isMin n h p:=by
    obtain ⟨p,h1,h2⟩:=exists_min n h n hn
    exact ⟨p,h1,h2⟩
  have hp0n:=hp0.1
  induction q with
  | zero=>intro i t s _ _ _ _ _ _ _ hq; exact absurd hq (Nat.not_lt_zero _)
  | succ q ih =>
    intro i t s hne hmin hi ht hs heq hno hq
    unfold leastG
    split
    · rename_i hx
      have hmin0:∀ lo,lo = min i t->isMin n h lo->isMin n h (min (min i t) (n - 1)):=fun lo hlo hm=>by
        rw [show min (min i t) (n - 1) = lo by omega]; exact hm
      by_cases c:n <= i ∨ n <= t
      · refine hmin0 (min i t) rfl ?_
        by_cases e:p0 = min i t
        · rw [<- e]; exact hp0
        · exact absurd hp0 (hno p0 hp0n (by omega) e)
      · refine hmin0 (min i t) rfl ?_
        have hsn:s = n:=by omega
        subst hsn
        by_cases c2:i < t
        · rw [show min i t = i by omega]
          exact period_min c2 (fun u hu=>(heq u hu).symm) (fun p hp h1 h2=>hno p hp (by omega) (by omega)) p0 p0 (Nat.le_refl _) hp0
        · rw [show min i t = t by omega]
          exact period_min (show t < i by omega) (fun u hu=>heq u hu) (fun p hp h1 h2=>hno p hp (by omega) (by omega)) p0 p0 (Nat.le_refl _) hp0
    · rename_i hx
      split
      · rename_i he
        refine ih i t (s+1) hne hmin hi ht (by omega) (fun u hu=>?_) hno (by omega)
        by_cases eu:u = s
        · rw [eu]; exact he
        · exact heq u (by omega)
      · rename_i he
        split
        · rename_i hg
          have hsk:=skip_not (by omega) heq hg
          split
          · rename_i e
            exact ih (i+s+1) (t+1) 0 (by omega) (by omega) (by omega) (by omega) (by omega) (fun u hu=>absurd hu (Nat.not_lt_zero u)) (fun p hp h1 h2=>by
              by_cases hr:i <= p ∧ p <= i+s
              · exact hsk p hr.1 hr.2
              · exact hno p hp (by omega) (by omega)) (by omega)
          · rename_i e
            exact ih (i+s+1) t 0 (by omega) (by omega) (by omega) (by omega) (by omega) (fun u hu=>absurd hu (Nat.not_lt_zero u)) (fun p hp h1 h2=>by
              by_cases hr:i <= p ∧ p <= i+s
              · exact hsk p hr.1 hr.2
              · exact hno p hp (by omega) (by omega)) (by omega)
        · rename_i hg
          have hg2:h ((i+s) % n) < h ((t+s) % n):=by omega
          have hsk:=skip_not (by omega) (fun u hu=>(heq u hu).symm) hg2
          split
          · rename_i e
            exact ih i (t+s+2) 0 (by omega) (by omega) (by omega) (by omega) (by omega) (fun u hu=>absurd hu (Nat.not_lt_zero u)) (fun p hp h1 h2=>by
              by_cases hr:t <= p ∧ p <= t+s
              · exact hsk p hr.1 hr.2
              · exact hno p hp (by omega) (by omega)) (by omega)
          · rename_i e
            exact ih i (t+s+1) 0 (by omega) (by omega) (by omega) (by omega) (by omega) (fun u hu=>absurd hu (Nat.not_lt_zero u)) (fun p hp h1 h2=>by
              by_cases hr:t <= p ∧ p <= t+s
              · exact hsk p hr.1 hr.2
              · exact hno p hp (by omega) (by omega)) (by omega)
theorem leastN_min (n:Nat) (h:Nat->Int) (hn:0 < n):isMin n h (leastN n h) :=
  leastG_min n h hn _ 0 1 0 (by omega) (by omega) (by omega) (by omega) (by omega) (fun u hu=>absurd hu (Nat.not_lt_zero u)) (fun p _ h1 h2=>by omega) (by omega)
def turnK (n:Nat) (b:Int):Nat:=toN (sel (ilt (itmod b (ofNat n)) 0) (itmod b (ofNat n)+ofNat n) (itmod b (ofNat n)))
def turnE (n:Nat) (f:Nat->E6) (b:Int) (i:Nat):E6:=f ((turnK n b+i) % n)
theorem tmod_bounds (b:Int) {n:Nat} (h:0 < n):-(n:Int) < itmod b (ofNat n) ∧ itmod b (ofNat n) < (n:Int):=by
  unfold itmod
  have h1:(0:Int) < ofNat n:=by simp only [Int.ofNat_eq_natCast]; omega
  exact ⟨Int.lt_tmod_of_pos b h1,Int.tmod_lt_of_pos b h1⟩
theorem turnK_neg {b:Int} {n:Nat} (h:0 < n) (hn:n <= 4611686018427387904) (hb:ilt (itmod b (ofNat n)) 0 = true):wr .i64 (iadd (itmod b (ofNat n)) (ofNat n)) = ofNat (turnK n b) ∧ turnK n b < n:=by
  obtain ⟨h1,h2⟩:=tmod_bounds b h
  have h3:itmod b (ofNat n) < 0:=by simpa [ilt] using hb
  have h4:turnK n b = (itmod b (ofNat n)+(n:Int)).toNat:=by unfold turnK; rw [hb]; rfl
  rw [h4]
  generalize itmod b (ofNat n) = r at h1 h2 h3 ⊢
  refine ⟨?_,by omega⟩
  unfold wr iadd IntKind.wrap
  simp [IntKind.bits,IntKind.signed]
  omega
theorem turnK_pos {b:Int} {n:Nat} (h:0 < n) (hb:ilt (itmod b (ofNat n)) 0 = false):itmod b (ofNat n) = ofNat (turnK n b) ∧ turnK n b < n:=by
  obtain ⟨h1,h2⟩:=tmod_bounds b h
  have h3:¬ itmod b (ofNat n) < 0:=by simpa [ilt] using hb
  have h4:turnK n b = (itmod b (ofNat n)).toNat:=by unfold turnK; rw [hb]; rfl
  rw [h4]
  generalize itmod b (ofNat n) = r at h1 h2 h3 ⊢
  refine ⟨?_,by omega⟩
  simp only [Int.ofNat_eq_natCast]
  omega
theorem turnK_nat {n k:Nat} (h:k < n):turnK n (ofNat k) = k:=by
  unfold turnK
  rw [mod_nat,Nat.mod_eq_of_lt h]
  have:ilt (ofNat k) 0 = false:=by simp [ilt]
  rw [this]
  rfl
def lp69 (n:Nat) (f:Nat->E6) (b:Int):Lp:=⟨(bmK 39 0 [0,5,6,7,8]),2,(bmK 39 0 [5]),2,n+1⟩
def st69 (n:Nat) (f:Nat->E6) (b:Int) (k:Int) (i:Nat) (x:Nat->V) (j:Nat->V):St:=⟨(jsV 39 0 j [(0,.sl 6 n (fun i=>(eV (f i)))),(5,.ref 1),(6,nV n),(7,iV k),(8,nV i)]),[.row 44 6 0 (fun _=>.und),.row 44 6 i x]⟩
def en69e (n:Nat) (f:Nat->E6) (b:Int) (k:Int) (i:Nat) (x:Nat->V):Ex × St:=(.ex 0,⟨(jsV 39 0 (fun _=>.und) [(5,.ref 1)]),[.row 44 6 0 (fun _=>.und),.row 44 6 i x]⟩)
noncomputable def body69 (L:LT):St->T (Ex × St):=fun st=>evalC tab ⟨callT tb0,L,Gl⟩ (loopBody Try.f21 0) 0 st
section
variable (L:LT) (n:Nat) (f:Nat->E6) (b:Int) (k:Int) (i:Nat) (x:Nat->V)  (j:Nat->V)
include L n f b k i x j
theorem rc69e (h0:ilt (ofNat i) (ofNat n) = false):roundT (body69 L) (lp69 n f b) (st69 n f b k i x j) = some ((.ex 0),⟨(jsV 39 0 (fun _=>.und) [(5,(.ref 1))]),[(.row 44 6 0 (fun _=>.und)),(.row 44 6 i x)]⟩):=by
  exact sem_of_path (ds:=[false]) (cs:=[(ilt (ofNat i) (ofNat n))]) (by kernel_rfl) (by simp only [h0] <;> rfl)
theorem rc69n (h0:ilt (ofNat i) (ofNat n) = true) (h1:ieq (ofNat n) 0 = false) (h2:band (ile 0 (itmod (wr .i64 (iadd k (ofNat i))) (ofNat n))) (ilt (itmod (wr .i64 (iadd k (ofNat i))) (ofNat n)) (ofNat n)) = true) (h3:apOK i 1 40 = true):roundT (body69 L) (lp69 n f b) (st69 n f b k i x j) = some (.nm,⟨(jsV 39 0 (fun _=>.und) [(0,(.sl 6 n (fun i=>(eV (f i))))),(5,(.ref 1)),(6,(nV n)),(7,(iV k)),(8,(iV (wr .i64 (iadd (ofNat i) 1))))]),[(.row 44 6 0 (fun _=>.und)),(.row 44 6 (nadd i 1) (pushGet i x (eV (f (toN (itmod (wr .i64 (iadd k (ofNat i))) (ofNat n)))))))]⟩):=by
  exact sem_of_path (ds:=[true,false,true,true]) (cs:=[(ilt (ofNat i) (ofNat n)),(ieq (ofNat n) 0),(band (ile 0 (itmod (wr .i64 (iadd k (ofNat i))) (ofNat n))) (ilt (itmod (wr .i64 (iadd k (ofNat i))) (ofNat n)) (ofNat n))),(apOK i 1 40)]) (by kernel_rfl) (by simp only [h2] <;> simp only [h0,h1,h3] <;> rfl)
end
theorem wc69z (L:LT) (n:Nat) (f:Nat->E6) (b:Int) (h0:ieq (ofNat n) 0 = true):(finF (evalF tab ⟨callT tb0,L,Gl⟩ Try.f21 [edgesV n f,iV b] [])).sem = some ((.ref 0),[(.row 44 6 0 (fun _=>.und))]):=by
  exact sem_of_path (ds:=[true]) (cs:=[(ieq (ofNat n) 0)]) (by kernel_rfl) (by simp only [h0] <;> rfl)
def ent69a (n:Nat) (f:Nat->E6) (b:Int) :St:=⟨(jsV 39 0 (fun _=>undefV) [(0,(.sl 6 n (fun i=>(eV (f i))))),(1,(iV b)),(4,(.ref 0)),(5,(.ref 1)),(6,(nV n)),(7,(iV (wr .i64 (iadd (itmod b (ofNat n)) (ofNat n))))),(8,(iV 0)),(9,(.sl 6 n (fun i=>(eV (f i))))),(10,(nV n)),(11,(nV n)),(12,(bV (ieq (ofNat n) 0))),(14,(iV b)),(15,(nV n)),(16,(iV (itmod b (ofNat n)))),(17,(iV (itmod b (ofNat n)))),(18,(bV (ilt (itmod b (ofNat n)) 0))),(19,(iV (itmod b (ofNat n)))),(20,(nV n)),(21,(iV (wr .i64 (iadd (itmod b (ofNat n)) (ofNat n)))))]),[(.row 44 6 0 (fun _=>.und)),(.row 44 6 0 (fun _=>.und))]⟩
def ent69b (n:Nat) (f:Nat->E6) (b:Int) :St:=⟨(jsV 39 0 (fun _=>undefV) [(0,(.sl 6 n (fun i=>(eV (f i))))),(1,(iV b)),(4,(.ref 0)),(5,(.ref 1)),(6,(nV n)),(7,(iV (itmod b (ofNat n)))),(8,(iV 0)),(9,(.sl 6 n (fun i=>(eV (f i))))),(10,(nV n)),(11,(nV n)),(12,(bV (ieq (ofNat n) 0))),(14,(iV b)),(15,(nV n)),(16,(iV (itmod b (ofNat n)))),(17,(iV (itmod b (ofNat n)))),(18,(bV (ilt (itmod b (ofNat n)) 0)))]),[(.row 44 6 0 (fun _=>.und)),(.row 44 6 0 (fun _=>.und))]⟩
section
variable (L:LT) (p0:PT) (n:Nat) (f:Nat->E6) (b:Int) (k:Int) (x:Nat->V)
include L p0 n f b k x
theorem wc69a (h0:ieq (ofNat n) 0 = false) (h1:ilt (itmod b (ofNat n)) 0 = true) (hp0:p0 (body69 (onP 0 p0 (en69e n f b k n x) L)) (ent69a n f b) = true):(finF (evalF tab ⟨callT tb0,(onP 0 p0 (en69e n f b k n x) L),Gl⟩ Try.f21 [edgesV n f,iV b] [])).sem = some ((.ref 0),[(.row 44 6 n x)]):=by
  exact sem_of_path (ds:=[false,false,true,true]) (cs:=[(ieq (ofNat n) 0),(ieq (ofNat n) 0),(ilt (itmod b (ofNat n)) 0),(p0 (body69 (onP 0 p0 (en69e n f b k n x) L)) (ent69a n f b))]) (by kernel_rfl) (by simp only [hp0] <;> simp only [h0,h1] <;> rfl)
theorem wc69b (h0:ieq (ofNat n) 0 = false) (h1:ilt (itmod b (ofNat n)) 0 = false) (hp0:p0 (body69 (onP 0 p0 (en69e n f b k n x) L)) (ent69b n f b) = true):(finF (evalF tab ⟨callT tb0,(onP 0 p0 (en69e n f b k n x) L),Gl⟩ Try.f21 [edgesV n f,iV b] [])).sem = some ((.ref 0),[(.row 44 6 n x)]):=by
  exact sem_of_path (ds:=[false,false,false,true]) (cs:=[(ieq (ofNat n) 0),(ieq (ofNat n) 0),(ilt (itmod b (ofNat n)) 0),(p0 (body69 (onP 0 p0 (en69e n f b k n x) L)) (ent69b n f b))]) (by kernel_rfl) (by simp only [hp0] <;> simp only [h0,h1] <;> rfl)
end
theorem run69 (L:LT) (n:Nat) (f:Nat->E6) (b:Int) (K:Nat) (hK:K < n) (h8:n * 40 <= 140737488355328):∀ (d i:Nat) (j:Nat->V) (q:Nat),n = i+d->d < q ->
    (iterT (body69 L) (lp69 n f b) q (st69 n f b (ofNat K) i (pushN (fun i=>eV (f ((K+i) % n))) i) j)).sem = some (en69e n f b (ofNat K) n (pushN (fun i=>eV (f ((K+i) % n))) n))
  | 0,i,j,q+1,h,_=>by
    have:n = i:=by omega
    subst this
    exact iter_round (rc69e L n f b (ofNat K) n (pushN (fun i=>eV (f ((K+i) % n))) n) j (ofNat_ge (Nat.le_refl _)))
  | d+1,i,j,q+1,h,h2=>by
    have hl:i < n:=by omega
    have h9:(i+1) * 40 <= 140737488355328:=Nat.le_trans (Nat.mul_le_mul_right 40 hl) h8
    have ha:apOK i 1 40 = true:=decide_eq_true h9
    have e1:itmod (wr .i64 (iadd (ofNat K) (ofNat i))) (ofNat n) = ofNat ((K+i) % n):=by rw [wr_add (by omega),mod_nat]
    have hb:band (ile 0 (itmod (wr .i64 (iadd (ofNat K) (ofNat i))) (ofNat n))) (ilt (itmod (wr .i64 (iadd (ofNat K) (ofNat i))) (ofNat n)) (ofNat n)) = true:=by
      rw [e1]; exact ofNat_in (Nat.mod_lt _ (by omega))
    rw [iter_round (rc69n L n f b (ofNat K) i (pushN (fun i=>eV (f ((K+i) % n))) i) j (ofNat_lt hl) (ne_0u hl) hb ha),goOn_nm,succ_wr hl (by omega),e1,show toN (ofNat ((K+i) % n)) = (K+i) % n from rfl]
    exact run69 L n f b K hK h8 d (i+1) (fun _=>.und) q (by omega) (by omega)
def turnedT:List V->T (V × List Blk)
  | [v,.val (.int .i64 b)]=>apL v fun n f=>.br (fitN n) (.leaf (.ref 0,[.row 44 6 n fun i=>eV (turnE n f b i)])) .fail
  | _=>.fail
theorem ent69a_eq (n:Nat) (f:Nat->E6) (b:Int) (g:Nat->V):ent69a n f b = st69 n f b (wr .i64 (iadd (itmod b (ofNat n)) (ofNat n))) 0 (pushN g 0) (fun i=>nth (ent69a n f b).t i):=by kernel_rfl
theorem ent69b_eq (n:Nat) (f:Nat->E6) (b:Int) (g:Nat->V):ent69b n f b = st69 n f b (itmod b (ofNat n)) 0 (pushN g 0) (fun i=>nth (ent69b n f b).t i):=by kernel_rfl
theorem p69:PureC Try.prog Gl 21 turnedT:=by
  refine pureC_intro tabOK mixed Try.func21 (by kernel_rfl) (by kernel_rfl) fun vs v h' h=>?_
  unfold turnedT at h
  split at h
  · rename_i u b
    obtain ⟨n,f,ha,h1⟩:=apL_some h
    obtain ⟨hn,hq⟩:=sem_br_fail h1
    have:=sem_leaf hq
    simp only [Prod.mk.injEq] at this
    obtain ⟨rfl,rfl⟩:=this
    have h8:n * 40 <= 140737488355328:=of_decide_eq_true hn
    have hA:ArgLE [u,.val (.int .i64 b)] [edgesV n f,iV b]:=fun S w cs hv=>by
      obtain ⟨c,l,rfl,q1,q2⟩:=hv
      exact ⟨c,l,rfl,ha S w c q1,q2⟩
    have hx:=cx_ok tb0_ok [(0,lp69 n f b)]
    have hL:=loopsBy_le [(0,lp69 n f b)]
    cases n with
    | zero=>exact ⟨_,cxOf Gl tb0 [(0,lp69 0 f b)],_,hA,rfl,hx.1,hx.2,wc69z _ 0 f b rfl,RowsLE.one fun j hj=>absurd hj (Nat.not_lt_zero _)⟩
    | succ m =>
      have hm:m+1 <= 4611686018427387904:=by omega
      have h0:0 < m+1:=Nat.succ_pos m
      have hz:ieq (ofNat (m+1)) 0 = false:=ne_0u h0
      have fin:∀ K,K = turnK (m+1) b->RowsLE [Blk.row 44 6 (m+1) (pushN (fun i=>eV (f ((K+i) % (m+1)))) (m+1))] [Blk.row 44 6 (m+1) fun i=>eV (turnE (m+1) f b i)]:=fun K hK=>RowsLE.one fun j hj=>by
        rw [pushN_eq _ _ j hj,hK]
        rfl
      cases hb:ilt (itmod b (ofNat (m+1))) 0 with
      | true =>
        obtain ⟨e1,e2⟩:=turnK_neg h0 hm hb
        have hr:∀ L,(loopsBy [(0,lp69 (m+1) f b)] 0 (body69 L) (ent69a (m+1) f b)).sem = some (en69e (m+1) f b (ofNat (turnK (m+1) b)) (m+1) (pushN (fun i=>eV (f ((turnK (m+1) b+i) % (m+1)))) (m+1))):=fun L=>by
          show (iterT (body69 L) (lp69 (m+1) f b) (m+2) (ent69a (m+1) f b)).sem = _
          rw [ent69a_eq (m+1) f b (fun i=>eV (f ((turnK (m+1) b+i) % (m+1)))),e1]
          exact run69 L (m+1) f b _ e2 h8 (m+1) 0 _ (m+2) (by omega) (by omega)
        exact ⟨_,cxOf Gl tb0 [(0,lp69 (m+1) f b)],_,hA,rfl,hx.1,hx.2,told_le (onP_le hL hL) _ (wc69a _ _ (m+1) f b _ _ hz hb (isP_true (hr _))),fin _ rfl⟩
      | false =>
        obtain ⟨e1,e2⟩:=turnK_pos h0 hb
        have hr:∀ L,(loopsBy [(0,lp69 (m+1) f b)] 0 (body69 L) (ent69b (m+1) f b)).sem = some (en69e (m+1) f b (ofNat (turnK (m+1) b)) (m+1) (pushN (fun i=>eV (f ((turnK (m+1) b+i) % (m+1)))) (m+1))):=fun L=>by
          show (iterT (body69 L) (lp69 (m+1) f b) (m+2) (ent69b (m+1) f b)).sem = _
          rw [ent69b_eq (m+1) f b (fun i=>eV (f ((turnK (m+1) b+i) % (m+1)))),e1]
          exact run69 L (m+1) f b _ e2 h8 (m+1) 0 _ (m+2) (by omega) (by omega)
        exact ⟨_,cxOf Gl tb0 [(0,lp69 (m+1) f b)],_,hA,rfl,hx.1,hx.2,told_le (onP_le hL hL) _ (wc69b _ _ (m+1) f b _ _ hz hb (isP_true (hr _))),fin _ rfl⟩
  · cases h
end Go.Proofs.Ytjhnfomefcngfaa.Ed
