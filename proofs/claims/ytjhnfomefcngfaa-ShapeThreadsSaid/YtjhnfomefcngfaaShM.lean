/-
  Layer 7: the law ShapeThreads, as a function: the threads' events are all events, side by side, in order. No conditions.
-/
import Derived.Test.YtjhnfomefcngfaaShL
namespace Go.Proofs.Ytjhnfomefcngfaa.Sh
open Go.Sy Ed
open Int (ofNat)
set_option maxHeartbeats 1000000
set_option maxRecDepth 4000
theorem shG_shG {a:Int} {n:Nat} {f:Nat->E6} (h:IsCycle a n f):shG n (shG n f) = shG n f:=by
  have hlo:=h.lo
  have hl:=leastN_ok n (fun i=>codeN (f i))
  have key:∀ i,i < n->canF n (shG n f) i = canF n f i:=fun i hi=>by
    have h1:=cyc_canon h
    rw [canF_congr (f:=fun i=>canF n f ((shQ n f+i) % n)) (h1.turned (shQ_ok h).2.2.2).may (fun i hi=>shG_out hi) hi]
    rw [canF_turned (f:=fun i=>canF n f i) (by omega) (shQ_ok h).2.2.2 h1.may hi]
    exact canF_can (by omega) h.may hi
  have hq:shQ n (shG n f) = shQ n f:=by
    unfold shQ
    rw [lstN_congr (p:=fun i=>outB (canF n (shG n f) i)) (q:=fun i=>outB (canF n f i)) fun i hi=>by rw [key i hi]]
  funext i
  by_cases hi:i < n
  · rw [shG_out hi,shG_out hi,hq]
    exact key _ (Nat.mod_lt _ (by omega))
  · unfold shG cutE
    rw [decide_eq_false hi]
    rfl
theorem sameS_rfl (s:Sh7):sameS s s = true:=by
  unfold sameS
  rw [band_t (ieq_self _),band_t (ieq_self _),band_t (ieq_self _),band_t (sameB_rfl _ _),band_t (ieq_self _),band_t (sameI_rfl _ _),band_t (sameJ_rfl _ _ _)]
  exact allN_iff.2 fun _ _=>sameX_rfl _
theorem check_of {a:Int} {n:Nat} {f:Nat->E6} (h:IsCycle a n f):checkS (ofS a n f) = true:=by
  unfold checkS
  rw [band_t (show ieq (chkE (ofS a n f).arch (ofS a n f).ne (ofS a n f).E) 0 = true from (shG_cycle h).chk.1)]
  show sameS (ofS a n f) (ofS a n (shG n f)) = true
  rw [show ofS a n (shG n f) = ofS a n f by unfold ofS; rw [shG_shG h]]
  exact sameS_rfl _
theorem ofNat_lt_ge {a b:Nat} (h:a < b):ile (ofNat b) (ofNat a) = false:=by
  cases hc:ile (ofNat b) (ofNat a) with
  | false=>rfl
  | true =>
    have:ofNat b <= ofNat a:=of_decide_eq_true hc
    have:b <= a:=Int.ofNat_le.1 this
    omega
theorem neg_nat (b:Nat):ilt (ofNat b) 0 = false:=decide_eq_false (by
  have:=Int.natCast_nonneg b
  show ¬ ((b:Int) < 0)
  omega)
theorem pos_nat {k:Nat} (h:0 < k):ieq (ofNat k) 0 = false:=by
  cases hc:ieq (ofNat k) 0 with
  | false=>rfl
  | true =>
    have:=ieq_eq hc
    have:(k:Int) = 0:=this
    omega
theorem ieq_of {a b:Int} (h:a = b):ieq a b = true:=by rw [h]; exact ieq_rfl _
theorem le12 {k:Nat} (h:k <= 12):ilt 12 (ofNat k) = false:=decide_eq_false (by
  show ¬ ((12:Int) < (k:Int))
  omega)
theorem le_refl_nat (k:Nat):ile (ofNat k) (ofNat k) = true:=decide_eq_true (Int.le_refl _)
theorem rowsBare_ints {n:Nat} {h:Nat->Nat}:rowsBare [.row 3 1 n (fun k=>iV (ofNat (h k)))] = true:=by simp [rowsBare]; exact fun _ _=>rfl
theorem rowsBare_none:rowsBare [.row 3 1 0 (fun _=>V.und)] = true:=by simp [rowsBare]
theorem fit_8 {n:Nat} (h:fitN n = true):fit8 n = true:=by
  have:n * 40 <= _:=of_decide_eq_true h
  exact decide_eq_true (by omega)
theorem all2 {q:Nat} {ln:Nat->Nat}:∀ (_ _:Unit),(allN q fun i=>allN (ln i) fun _=>true) = true:=fun _ _=>allN_iff.2 fun _ _=>allN_iff.2 fun _ _=>rfl
theorem cnt_all {P:Nat->Bool}:∀ {n:Nat},(∀ i,i < n->P i = true)->cntB P n = n
  | 0,_=>rfl
  | n+1,h=>by rw [cntB_t (h n (by omega)),cnt_all fun i hi=>h i (by omega)]
theorem cnt_anti {P:Nat->Bool} (hP:∀ i k,i <= k->P k = true->P i = true):∀ {n i:Nat},i < n->(P i = true ↔ i < cntB P n)
  | n+1,i,hi=>by
    cases hp:P n with
    | true =>
      rw [cntB_t hp,cnt_all fun k hk=>hP k n (by omega) hp]
      exact ⟨fun _=>hi,fun _=>hP i n (by omega) hp⟩
    | false =>
      rw [cntB_f hp]
      by_cases he:i = n
      · have:=cntB_le P n
        rw [he,hp]
        exact ⟨fun h=>(by cases h),fun h=>by omega⟩
      · exact cnt_anti hP (by omega)
theorem cnt_iv {P:Nat->Bool} {lo hi n:Nat} (hP:∀ i,i < n->(P i = true ↔ lo <= i ∧ i < hi)) (hl:lo <= hi):∀ {b:Nat},b <= n->cntB P b = min b hi - lo
  | 0,_=>by simp [cntB]
  | b+1,h=>by
    have ih:=cnt_iv hP hl (b:=b) (by omega)
    have hb:=hP b (by omega)
    cases hp:P b with
    | true =>
      have:=hb.1 hp
      rw [cntB_t hp,ih]
      omega
    | false =>
      have:¬ (lo <= b ∧ b < hi):=fun hh=>by rw [hb.2 hh] at hp; cases hp
      rw [cntB_f hp,ih]
      omega
def sT (o:Nat->Bool) (n k:Nat):Nat:=cntB (fun i=>decide (cntB o i < k)) n
theorem sT_at {o:Nat->Bool} {n k i:Nat} (hi:i < n):i < sT o n k ↔ cntB o i < k:=by
  have h:=cnt_anti (P:=fun i=>decide (cntB o i < k)) (fun i j h1 h2=>by
    have h3:cntB o j < k:=of_decide_eq_true h2
    have:=cntB_mono o h1
    exact decide_eq_true (by omega)) hi
  exact ⟨fun h1=>of_decide_eq_true (h.2 h1),fun h1=>h.1 (decide_eq_true h1)⟩
theorem sT_le (o:Nat->Bool) (n k:Nat):sT o n k <= n:=cntB_le _ _
theorem sT_0 (o:Nat->Bool) (n:Nat):sT o n 0 = 0:=cntB_zero fun _ _=>by simp
theorem sT_mono (o:Nat->Bool) (n k:Nat):sT o n k <= sT o n (k+1):=by
  by_cases h:sT o n (k+1) < sT o n k
  · have h1:=sT_le o n k
    have h2:=(sT_at (o:=o) (k:=k) (show sT o n (k+1) < n by omega)).1 h
    have h3:=(sT_at (o:=o) (k:=k+1) (show sT o n (k+1) < n by omega)).2 (by omega)
    omega
  · omega
theorem before {o:Nat->Bool} {n i:Nat} (hi:i < n) (h:o (n - 1) = true):cntB o i < cntB o n:=by
  have h1:=cntB_t h
  have h2:=cntB_mono o (show i <= n - 1 by omega)
  rw [show n - 1+1 = n by omega] at h1
  omega
theorem sT_all {o:Nat->Bool} {n:Nat} (h:o (n - 1) = true):sT o n (cntB o n) = n:=cnt_all fun _ hi=>decide_eq_true (before hi h)
theorem thread_ok {a:Int} {n:Nat} {g:Nat->E6} (h:IsCycle a n g) (hl:obF g (n - 1) = true) {b:Nat} (hb:b < ttN n g) :
    ∃ m,m = cntB (fun i=>ieq (evF n g (fun _=>true) i).th (ofNat b)) n ∧ 0 < m ∧ m <= 12 ∧ sT (obF g) n (b+1) = sT (obF g) n b+m ∧ ∀ d,d < m ->
      selN (fun i=>ieq (evF n g (fun _=>true) i).th (ofNat b)) n d = sT (obF g) n b+d ∧ (evF n g (fun _=>true) (sT (obF g) n b+d)).th = ofNat b ∧ (evF n g (fun _=>true) (sT (obF g) n b+d)).pl = ofNat d:=by
  have hth:∀ i,i < n->thF n g i = ofNat (cntB (obF g) i):=fun i hi=>by
    show partF (obF g) n i = _
    rw [partF_N hi]
    unfold partN
    rw [if_neg (by have:=before hi hl; omega)]
  have hm:=sT_mono (obF g) n b
  have hle:=sT_le (obF g) n (b+1)
  have hP:∀ i,i < n->((ieq (evF n g (fun _=>true) i).th (ofNat b)) = true ↔ sT (obF g) n b <= i ∧ i < sT (obF g) n (b+1)):=fun i hi=>by
    have h1:=sT_at (o:=obF g) (k:=b) hi
    have h2:=sT_at (o:=obF g) (k:=b+1) hi
    rw [evF_in hi]
    show ieq (thF n g i) (ofNat b) = true ↔ _
    rw [hth i hi]
    have h3:ieq (ofNat (cntB (obF g) i)) (ofNat b) = true ↔ cntB (obF g) i = b:=⟨fun hh=>Int.ofNat.inj (ieq_eq hh),fun hh=>by rw [hh]; exact ieq_rfl _⟩
    rw [h3]
    omega
  have hc:=fun {k:Nat} (hk:k <= n)=>cnt_iv (P:=fun i=>ieq (evF n g (fun _=>true) i).th (ofNat b)) hP hm hk
  obtain ⟨h1,h2,h3⟩:=selN_spec (P:=obF g) (n:=n) (m:=b) hb
  have hat:=(hP _ h1).1 (by rw [evF_in h1]; show ieq (thF n g _) _ = true; rw [hth _ h1,h3]; exact ieq_rfl _)
  have hn:=hc (Nat.le_refl n)
  rw [Nat.min_eq_right hle] at hn
  refine ⟨_,rfl,by rw [hn]; omega,?_,by rw [hn]; omega,fun d hd=>?_⟩
  · have h4:=h.crowd _ h1
    unfold tooMany at h4
    rw [band_t rfl] at h4
    have h5:¬ ((12:Int) < ofNat (cntB (cntP (partF (fun k=>outB (g k)) n) (fun _=>true) (partF (fun k=>outB (g k)) n (selN (obF g) n b))) n)):=of_decide_eq_false h4
    have h6:cntB (cntP (partF (fun k=>outB (g k)) n) (fun _=>true) (partF (fun k=>outB (g k)) n (selN (obF g) n b))) n = cntB (fun i=>ieq (evF n g (fun _=>true) i).th (ofNat b)) n:=cnt_congr fun i hi=>by
      unfold cntP
      rw [show partF (fun k=>outB (g k)) n (selN (obF g) n b) = ofNat b from (hth _ h1).trans (by rw [h3]),evF_in hi]
      show band (ieq (thF n g i) _) true = ieq (thF n g i) _
      cases ieq (thF n g i) (ofNat b) <;> rfl
    rw [h6] at h5
    have h5:¬ ((12:Int) < (cntB (fun i=>ieq (evF n g (fun _=>true) i).th (ofNat b)) n:Int)):=h5
    omega
  · rw [hn] at hd
    have hi:sT (obF g) n b+d < n:=by omega
    have hp:=(hP _ hi).2 (by omega)
    have hd':=hc (Nat.le_of_lt hi)
    rw [Nat.min_eq_left (by omega),Nat.add_sub_cancel_left] at hd'
    have hs:=selN_at (P:=fun i=>ieq (evF n g (fun _=>true) i).th (ofNat b)) hi hp
    rw [hd'] at hs
    refine ⟨hs,ieq_eq hp,?_⟩
    rw [evF_in hi]
    show ofNat (plF n g _) = _
    rw [show plF n g (sT (obF g) n b+d) = d from ?_]
    refine Eq.trans (cnt_congr fun i hi'=>?_) hd'
    have:=ieq_eq hp
    rw [evF_in hi] at this
    have this:thF n g (sT (obF g) n b+d) = ofNat b:=this
    rw [this,evF_in (show i < n by omega)]
    exact ieq_comm _ _
noncomputable def tb7:List (Nat × (List V->T (V × List Blk))):=[(14,ofT),(18,unitT (bV true)),(19,chkT),(26,threadT)]
theorem tb7_ok:AllPure Try.prog Gl tb7:=.cons p14 <| .cons p18 <| .cons p49 <| .cons p26 .nil
theorem w7e (L:LT) (a:Int) (n:Nat) (f:Nat->E6) (h19:fitN n = true) (h0:ieq (chkE a n f) 0 = false):(finF (evalF tab ⟨callT tb7,L,Gl⟩ Try.f7 [iV a,.sl 6 n fun i=>eV (f i)] [])).sem = some ((bV true),[]):=by
  exact sem_of_path (ds:=bbK 8 251) (cs:=((fun c0 c1 c2=>[c0,c1,(ieq (chkE a n f) 0),(bnot (ieq (chkE a n f) 0)),c0,c1,c2,c2]) (allN n (fun _=>true)) (fitN n) (ieq (chkE a n f) (chkE a n f)))) (by kernel_rfl) (by simp only [h19,h0,allN_true,ieq_self] <;> rfl)
def ent7 (a:Int) (n:Nat) (f:Nat->E6) :St:=⟨(jsV 121 0 (fun _=>undefV) [(0,(iV a)),(1,(.sl 6 n (fun i=>(eV (f i))))),(4,(bV false)),(5,(.ptr 4 0)),(6,(iV 0)),(7,(iV 0)),(10,(iV 0)),(11,(iV 0)),(17,(.tup [(.agg [(iV a),(.ref 0),(.ref 1),(iV (ofNat (ttN n (shG n f)))),(iV (ofNat (kkN n (shG n f)))),(.ref 2),(.jref 3)]),(iV 0),(iV 0)])),(18,(iV a)),(19,(.sl 6 n (fun i=>(eV (f i))))),(20,(.tup [(.agg [(iV a),(.ref 0),(.ref 1),(iV (ofNat (ttN n (shG n f)))),(iV (ofNat (kkN n (shG n f)))),(.ref 2),(.jref 3)]),(iV 0),(iV 0)])),(21,(.agg [(iV a),(.ref 0),(.ref 1),(iV (ofNat (ttN n (shG n f)))),(iV (ofNat (kkN n (shG n f)))),(.ref 2),(.jref 3)])),(22,(iV 0)),(23,(iV 0)),(24,(iV 0)),(25,(bV (bnot (ieq 0 0))))]),[(.row 44 6 n (fun i=>(eV (shG n f i)))),(.row 40 5 n (fun i=>(.agg [(iV ((evF n (shG n f) (fun _=>true) i)).th),(iV ((evF n (shG n f) (fun _=>true) i)).pl),(iV ((evF n (shG n f) (fun _=>true) i)).dir),(iV ((evF n (shG n f) (fun _=>true) i)).loc),(iV ((evF n (shG n f) (fun _=>true) i)).val)]))),(.row 3 1 n (fun i=>(iV (rfF n (shG n f) (fun _=>true) i)))),(.jag (Jag.mk 25 1 (kkN n (shG n f)) (fun _=>.und) 0 3 1 (fun _=>true) (lnN (mbF (shG n f)) (wrF (shG n f)) n) (fun k i=>(iV (ofNat (coN (mbF (shG n f)) (wrF (shG n f)) n k i)))))),(.cells [(iV a),(.ref 0),(.ref 1),(iV (ofNat (ttN n (shG n f)))),(iV (ofNat (kkN n (shG n f)))),(.ref 2),(.jref 3)])]⟩
def lp7 (a:Int) (n:Nat) (f:Nat->E6):Lp:=⟨(bmK 121 0 [1,4,5,10,11]),5,(bmK 121 0 [1,4,5,10]),5,18⟩
def st7 (a:Int) (n:Nat) (f:Nat->E6) (t:Int) (q:Nat) (g:Nat->E6) (x:Nat->Ev5) (r:Nat->Int) (ln:Nat->Nat) (co:Nat->Nat->Int) (b c:Nat) (j:Nat->V):St:=⟨(jsV 121 0 j [(1,.sl 6 n fun i=>eV (f i)),(4,bV false),(5,.ptr 4 0),(10,nV c),(11,nV b)]),[(.row 44 6 n (fun i=>eV (g i))),(.row 40 5 n (fun i=>evV (x i))),(.row 3 1 n (fun i=>iV (r i))),(.jag (Jag.mk 25 1 q (fun _=>.und) 0 3 1 (fun _=>true) ln (fun k i=>iV (co k i)))),(.cells [(iV a),(.ref 0),(.ref 1),(iV t),(nV q),(.ref 2),(.jref 3)])]⟩
def en7e (a:Int) (n:Nat) (f:Nat->E6) (t:Int) (q:Nat) (g:Nat->E6) (x:Nat->Ev5) (r:Nat->Int) (ln:Nat->Nat) (co:Nat->Nat->Int) (b c:Nat):Ex × St:=(.ex 0,⟨(jsV 121 0 (fun _=>.und) [(1,.sl 6 n fun i=>eV (f i)),(4,bV false),(5,.ptr 4 0),(10,nV c)]),[(.row 44 6 n (fun i=>eV (g i))),(.row 40 5 n (fun i=>evV (x i))),(.row 3 1 n (fun i=>iV (r i))),(.jag (Jag.mk 25 1 q (fun _=>.und) 0 3 1 (fun _=>true) ln (fun k i=>iV (co k i)))),(.cells [(iV a),(.ref 0),(.ref 1),(iV t),(nV q),(.ref 2),(.jref 3)])]⟩)
noncomputable def body7 (L:LT):St->T (Ex × St):=fun st=>evalC tab ⟨callT tb7,L,Gl⟩ (loopBody Try.f7 0) 0 st
theorem rt7e (L:LT) (a:Int) (n:Nat) (f:Nat->E6) (t:Int) (q:Nat) (g:Nat->E6) (x:Nat->Ev5) (r:Nat->Int) (ln:Nat->Nat) (co:Nat->Nat->Int) (b c:Nat)  (j:Nat->V) (h0:ilt (ofNat b) t = false):roundT (body7 L) (lp7 a n f) (st7 a n f t q g x r ln co b c j) = some ((.ex 0),⟨(jsV 121 0 (fun _=>.und) [(1,(.sl 6 n (fun i=>(eV (f i))))),(4,(bV false)),(5,(.ptr 4 0)),(10,(nV c))]),[(.row 44 6 n (fun i=>(eV (g i)))),(.row 40 5 n (fun i=>(.agg [(iV ((x i)).th),(iV ((x i)).pl),(iV ((x i)).dir),(iV ((x i)).loc),(iV ((x i)).val)]))),(.row 3 1 n (fun i=>(iV (r i)))),(.jag (Jag.mk 25 1 q (fun _=>.und) 0 3 1 (fun _=>true) ln (fun k i=>(iV (co k i))))),(.cells [(iV a),(.ref 0),(.ref 1),(iV t),(nV q),(.ref 2),(.jref 3)])]⟩):=by
  exact sem_of_path (ds:=[false]) (cs:=[(ilt (ofNat b) t)]) (by kernel_rfl) (by simp only [h0] <;> rfl)
def ent7_2 (a:Int) (n:Nat) (f:Nat->E6) (t:Int) (q:Nat) (g:Nat->E6) (x:Nat->Ev5) (r:Nat->Int) (ln:Nat->Nat) (co:Nat->Nat->Int) (b c:Nat) (j:Nat->V):St:=⟨(jsV 121 0 j [(1,(.sl 6 n (fun i=>(eV (f i))))),(4,(bV false)),(5,(.ptr 4 0)),(10,(nV c)),(11,(nV b)),(12,(.ref 5)),(13,(iV 0)),(14,(iV 0)),(38,(nV b)),(39,(.ptr 4 3)),(40,(iV t)),(41,(bV (ilt (ofNat b) t))),(44,(.tup [(.ref 5),(iV 0)])),(45,(.agg [(iV a),(.ref 0),(.ref 1),(iV t),(nV q),(.ref 2),(.jref 3)])),(46,(nV b)),(47,(.tup [(.ref 5),(iV 0)])),(48,(.ref 5)),(49,(iV 0)),(50,(iV 0)),(51,(bV (bnot (ieq 0 0)))),(52,(bV (bnot (ieq 0 0)))),(53,(.ref 5)),(54,(iV (ofNat (cntB (fun i=>(ieq ((x i)).th (ofNat b))) n)))),(55,(bV (ieq (ofNat (cntB (fun i=>(ieq ((x i)).th (ofNat b))) n)) 0))),(56,(bV (ieq (ofNat (cntB (fun i=>(ieq ((x i)).th (ofNat b))) n)) 0))),(57,(bV (ieq (ofNat (cntB (fun i=>(ieq ((x i)).th (ofNat b))) n)) 0))),(58,(.ref 5)),(59,(iV (ofNat (cntB (fun i=>(ieq ((x i)).th (ofNat b))) n)))),(60,(bV (ilt 12 (ofNat (cntB (fun i=>(ieq ((x i)).th (ofNat b))) n))))),(61,(bV (ilt 12 (ofNat (cntB (fun i=>(ieq ((x i)).th (ofNat b))) n)))))]),[(.row 44 6 n (fun i=>(eV (g i)))),(.row 40 5 n (fun i=>(.agg [(iV ((x i)).th),(iV ((x i)).pl),(iV ((x i)).dir),(iV ((x i)).loc),(iV ((x i)).val)]))),(.row 3 1 n (fun i=>(iV (r i)))),(.jag (Jag.mk 25 1 q (fun _=>.und) 0 3 1 (fun _=>true) ln (fun k i=>(iV (co k i))))),(.cells [(iV a),(.ref 0),(.ref 1),(iV t),(nV q),(.ref 2),(.jref 3)]),(.row 3 1 (cntB (fun i=>(ieq ((x i)).th (ofNat b))) n) (fun k=>(iV (ofNat (selN (fun i=>(ieq ((x i)).th (ofNat b))) n k)))))]⟩
def lp7_2 (a:Int) (n:Nat) (f:Nat->E6):Lp:=⟨(bmK 121 0 [1,4,5,10,11,12,14]),6,(bmK 121 0 [1,4,5,10,11]),5,18⟩
def st7_2 (a:Int) (n:Nat) (f:Nat->E6) (t:Int) (q:Nat) (g:Nat->E6) (x:Nat->Ev5) (r:Nat->Int) (ln:Nat->Nat) (co:Nat->Nat->Int) (b c:Nat) (d m:Nat) (l:Nat->Nat) (j:Nat->V):St:=⟨(jsV 121 0 j [(1,.sl 6 n fun i=>eV (f i)),(4,bV false),(5,.ptr 4 0),(10,iV (ofNat (nadd c d))),(11,nV b),(12,.ref 5),(14,nV d)]),[(.row 44 6 n (fun i=>eV (g i))),(.row 40 5 n (fun i=>evV (x i))),(.row 3 1 n (fun i=>iV (r i))),(.jag (Jag.mk 25 1 q (fun _=>.und) 0 3 1 (fun _=>true) ln (fun k i=>iV (co k i)))),(.cells [(iV a),(.ref 0),(.ref 1),(iV t),(nV q),(.ref 2),(.jref 3)]),(.row 3 1 m (fun i=>iV (ofNat (l i))))]⟩
def en7_2e (a:Int) (n:Nat) (f:Nat->E6) (t:Int) (q:Nat) (g:Nat->E6) (x:Nat->Ev5) (r:Nat->Int) (ln:Nat->Nat) (co:Nat->Nat->Int) (b c:Nat) (d m:Nat) (l:Nat->Nat):Ex × St:=(.ex 2,⟨(jsV 121 0 (fun _=>.und) [(1,.sl 6 n fun i=>eV (f i)),(4,bV false),(5,.ptr 4 0),(10,iV (ofNat (nadd c d))),(11,nV b)]),[(.row 44 6 n (fun i=>eV (g i))),(.row 40 5 n (fun i=>evV (x i))),(.row 3 1 n (fun i=>iV (r i))),(.jag (Jag.mk 25 1 q (fun _=>.und) 0 3 1 (fun _=>true) ln (fun k i=>iV (co k i)))),(.cells [(iV a),(.ref 0),(.ref 1),(iV t),(nV q),(.ref 2),(.jref 3)])]⟩)
noncomputable def body7_2 (L:LT):St->T (Ex × St):=fun st=>evalC tab ⟨callT tb7,L,Gl⟩ (loopBody Try.f7 2) 2 st
section
variable (L:LT) (a:Int) (n:Nat) (f:Nat->E6) (t:Int) (q:Nat) (g:Nat->E6) (x:Nat->Ev5) (r:Nat->Int) (ln:Nat->Nat) (co:Nat->Nat->Int) (b c:Nat) (d m:Nat) (l:Nat->Nat)  (j:Nat->V)
include L a n f t q g x r ln co b c d m l j
theorem ru7e (h0:ilt (ofNat d) (ofNat m) = false):roundT (body7_2 L) (lp7_2 a n f) (st7_2 a n f t q g x r ln co b c d m l j) = some ((.ex 2),⟨(jsV 121 0 (fun _=>.und) [(1,(.sl 6 n (fun i=>(eV (f i))))),(4,(bV false)),(5,(.ptr 4 0)),(10,(iV (ofNat (nadd c d)))),(11,(nV b))]),[(.row 44 6 n (fun i=>(eV (g i)))),(.row 40 5 n (fun i=>(.agg [(iV ((x i)).th),(iV ((x i)).pl),(iV ((x i)).dir),(iV ((x i)).loc),(iV ((x i)).val)]))),(.row 3 1 n (fun i=>(iV (r i)))),(.jag (Jag.mk 25 1 q (fun _=>.und) 0 3 1 (fun _=>true) ln (fun k i=>(iV (co k i))))),(.cells [(iV a),(.ref 0),(.ref 1),(iV t),(nV q),(.ref 2),(.jref 3)])]⟩):=by
  exact sem_of_path (ds:=[false]) (cs:=[(ilt (ofNat d) (ofNat m))]) (by kernel_rfl) (by simp only [h0] <;> rfl)
theorem ru7n (h0:ilt (ofNat d) (ofNat m) = true) (h1:ile (ofNat n) (ofNat (nadd c d)) = false) (h25:ile 0 (ofNat d) = true) (h2:nlt d m = true) (h4:ieq (ofNat (l d)) (ofNat (nadd c d)) = true) (h27:band (ile 0 (ofNat (nadd c d))) (ilt (ofNat (nadd c d)) (ofNat n)) = true) (h3:nlt (nadd c d) n = true) (h5:ieq ((x (nadd c d))).th (ofNat b) = true) (h6:ieq ((x (nadd c d))).pl (ofNat d) = true):roundT (body7_2 L) (lp7_2 a n f) (st7_2 a n f t q g x r ln co b c d m l j) = some (.nm,⟨(jsV 121 0 (fun _=>.und) [(1,(.sl 6 n (fun i=>(eV (f i))))),(4,(bV false)),(5,(.ptr 4 0)),(10,(iV (wr .i64 (iadd (ofNat (nadd c d)) 1)))),(11,(nV b)),(12,(.ref 5)),(14,(iV (wr .i64 (iadd (ofNat d) 1))))]),[(.row 44 6 n (fun i=>(eV (g i)))),(.row 40 5 n (fun i=>(.agg [(iV ((x i)).th),(iV ((x i)).pl),(iV ((x i)).dir),(iV ((x i)).loc),(iV ((x i)).val)]))),(.row 3 1 n (fun i=>(iV (r i)))),(.jag (Jag.mk 25 1 q (fun _=>.und) 0 3 1 (fun _=>true) ln (fun k i=>(iV (co k i))))),(.cells [(iV a),(.ref 0),(.ref 1),(iV t),(nV q),(.ref 2),(.jref 3)]),(.row 3 1 m (fun i=>(iV (ofNat (l i)))))]⟩):=by
  exact sem_of_path (ds:=bbK 33 302137425) (cs:=((fun c0 c1 c2 c3 c4=>[(ilt (ofNat d) (ofNat m)),c0,c0,c0,(band (ile 0 (ofNat d)) (ilt (ofNat d) (ofNat m))),c0,(nlt d m),c0,c0,c0,c1,c1,c1,c1,c2,c1,c1,c3,c1,c1,c1,c4,c4,c4,c4,c2,c4,c4,c3,c4,c4,c4,(bnot (ieq ((x (nadd c d))).pl (ofNat d)))]) (ile (ofNat n) (ofNat (nadd c d))) (bnot (ieq (ofNat (l d)) (ofNat (nadd c d)))) (band (ile 0 (ofNat (nadd c d))) (ilt (ofNat (nadd c d)) (ofNat n))) (nlt (nadd c d) n) (bnot (ieq ((x (nadd c d))).th (ofNat b))))) (by kernel_rfl) (by simp only [h27] <;> simp only [h0,h1,h25,h2,h4,h3,h5,h6] <;> rfl)
end
theorem rt7n (L:LT) (p2:PT) (a:Int) (n:Nat) (f:Nat->E6) (t:Int) (q:Nat) (g:Nat->E6) (x:Nat->Ev5) (r:Nat->Int) (ln:Nat->Nat) (co:Nat->Nat->Int) (b c:Nat) (e:Nat) (j:Nat->V) (h0:ilt (ofNat b) t = true) (h23:jagsLive [(.row 44 6 n (fun i=>(eV (g i)))),(.row 40 5 n (fun i=>(.agg [(iV ((x i)).th),(iV ((x i)).pl),(iV ((x i)).dir),(iV ((x i)).loc),(iV ((x i)).val)]))),(.row 3 1 n (fun i=>(iV (r i)))),(.jag (Jag.mk 25 1 q (fun _=>.und) 0 3 1 (fun _=>true) ln (fun k i=>(iV (co k i))))),(.cells [(iV a),(.ref 0),(.ref 1),(iV t),(nV q),(.ref 2),(.jref 3)])] = true) (h24:allN q (fun i=>(allN (ln i) (fun _=>true))) = true) (h25:fitN n = true) (h26:fit8 n = true) (h27:smallN n = true) (h28:smallN q = true) (h29:allN q (fun i=>(smallN (ln i))) = true) (h30:checkS (Sh7.mk a n g n x t (ofNat q) n r q (fun i=>((ln i),(co i)))) = true) (h1:ilt (ofNat b) 0 = false) (h2:ile t (ofNat b) = false) (h31:rowsBare [(.row 3 1 (cntB (fun i=>(ieq ((x i)).th (ofNat b))) n) (fun k=>(iV (ofNat (selN (fun i=>(ieq ((x i)).th (ofNat b))) n k)))))] = true) (h3:ieq (ofNat (cntB (fun i=>(ieq ((x i)).th (ofNat b))) n)) 0 = false) (h4:ilt 12 (ofNat (cntB (fun i=>(ieq ((x i)).th (ofNat b))) n)) = false) (hp2:p2 (body7_2 (onP 2 p2 (en7_2e a n f t q g x r ln co b c e 0 (fun _=>0)) L)) (ent7_2 a n f t q g x r ln co b c j) = true):roundT (body7 (onP 2 p2 (en7_2e a n f t q g x r ln co b c e 0 (fun _=>0)) L)) (lp7 a n f) (st7 a n f t q g x r ln co b c j) = some (.nm,⟨(jsV 121 0 (fun _=>.und) [(1,(.sl 6 n (fun i=>(eV (f i))))),(4,(bV false)),(5,(.ptr 4 0)),(10,(iV (ofNat (nadd c e)))),(11,(iV (wr .i64 (iadd (ofNat b) 1))))]),[(.row 44 6 n (fun i=>(eV (g i)))),(.row 40 5 n (fun i=>(.agg [(iV ((x i)).th),(iV ((x i)).pl),(iV ((x i)).dir),(iV ((x i)).loc),(iV ((x i)).val)]))),(.row 3 1 n (fun i=>(iV (r i)))),(.jag (Jag.mk 25 1 q (fun _=>.und) 0 3 1 (fun _=>true) ln (fun k i=>(iV (co k i))))),(.cells [(iV a),(.ref 0),(.ref 1),(iV t),(nV q),(.ref 2),(.jref 3)])]⟩):=by
  exact sem_of_path (ds:=bbK 22 2100223) (cs:=((fun c0 c1 c2=>[(ilt (ofNat b) t),(jagsLive [(.row 44 6 n (fun i=>(eV (g i)))),(.row 40 5 n (fun i=>(.agg [(iV ((x i)).th),(iV ((x i)).pl),(iV ((x i)).dir),(iV ((x i)).loc),(iV ((x i)).val)]))),(.row 3 1 n (fun i=>(iV (r i)))),(.jag (Jag.mk 25 1 q (fun _=>.und) 0 3 1 (fun _=>true) ln (fun k i=>(iV (co k i))))),(.cells [(iV a),(.ref 0),(.ref 1),(iV t),(nV q),(.ref 2),(.jref 3)])]),c0,c0,c0,(allN q (fun i=>(allN (ln i) (fun _=>true)))),(fitN n),(fit8 n),(band (smallN n) (band (smallN n) (band (smallN n) (band (smallN q) (allN q (fun i=>(smallN (ln i)))))))),(checkS (Sh7.mk a n g n x t (ofNat q) n r q (fun i=>((ln i),(co i))))),(bor (ilt (ofNat b) 0) (ile t (ofNat b))),(rowsBare [(.row 3 1 (cntB (fun i=>(ieq ((x i)).th (ofNat b))) n) (fun k=>(iV (ofNat (selN (fun i=>(ieq ((x i)).th (ofNat b))) n k)))))]),c1,c1,c1,c1,c2,c2,c2,c2,(ilt 12 (ofNat (cntB (fun i=>(ieq ((x i)).th (ofNat b))) n))),(p2 (body7_2 (onP 2 p2 (en7_2e a n f t q g x r ln co b c e 0 (fun _=>0)) L)) (ent7_2 a n f t q g x r ln co b c j))]) (allN n (fun _=>true)) (bnot (ieq 0 0)) (ieq (ofNat (cntB (fun i=>(ieq ((x i)).th (ofNat b))) n)) 0))) (by kernel_rfl) (by simp only [hp2] <;> simp only [h0,h23,h24,h25,h26,h27,h28,h29,h30,h1,h2,h31,h3,h4,allN_true] <;> rfl)
theorem w7o (L:LT) (p0:PT) (a:Int) (n:Nat) (f:Nat->E6) (b c:Nat) (h22:fitN n = true) (h0:ieq (chkE a n f) 0 = true) (h23:jagsLive [(.row 44 6 n (fun i=>(eV (shG n f i)))),(.row 40 5 n (fun i=>(.agg [(iV ((evF n (shG n f) (fun _=>true) i)).th),(iV ((evF n (shG n f) (fun _=>true) i)).pl),(iV ((evF n (shG n f) (fun _=>true) i)).dir),(iV ((evF n (shG n f) (fun _=>true) i)).loc),(iV ((evF n (shG n f) (fun _=>true) i)).val)]))),(.row 3 1 n (fun i=>(iV (rfF n (shG n f) (fun _=>true) i)))),(.jag (Jag.mk 25 1 (kkN n (shG n f)) (fun _=>.und) 0 3 1 (fun _=>true) (lnN (mbF (shG n f)) (wrF (shG n f)) n) (fun k i=>(iV (ofNat (coN (mbF (shG n f)) (wrF (shG n f)) n k i)))))),(.cells [(iV a),(.ref 0),(.ref 1),(iV (ofNat (ttN n (shG n f)))),(iV (ofNat (kkN n (shG n f)))),(.ref 2),(.jref 3)])] = true) (h24:allN (kkN n (shG n f)) (fun i=>(allN (lnN (mbF (shG n f)) (wrF (shG n f)) n i) (fun _=>true))) = true) (h25:fit8 n = true) (h26:smallN n = true) (h27:smallN (kkN n (shG n f)) = true) (h28:allN (kkN n (shG n f)) (fun i=>(smallN (lnN (mbF (shG n f)) (wrF (shG n f)) n i))) = true) (h29:checkS (Sh7.mk a n (fun i=>(shG n f i)) n (fun i=>(evF n (shG n f) (fun _=>true) i)) (ofNat (ttN n (shG n f))) (ofNat (kkN n (shG n f))) n (rfF n (shG n f) (fun _=>true)) (kkN n (shG n f)) (fun i=>((lnN (mbF (shG n f)) (wrF (shG n f)) n i),(fun i_1=>(ofNat (coN (mbF (shG n f)) (wrF (shG n f)) n i i_1)))))) = true) (h1:ilt (ofNat (ttN n (shG n f))) 0 = false) (h2:ile (ofNat (ttN n (shG n f))) (ofNat (ttN n (shG n f))) = true) (h30:rowsBare [(.row 3 1 0 (fun _=>.und))] = true) (h3:ieq (ofNat c) (ofNat n) = true) (hp0:p0 (body7 (onP 0 p0 (en7e a n f (ofNat (ttN n (shG n f))) (kkN n (shG n f)) (shG n f) (evF n (shG n f) (fun _=>true)) (rfF n (shG n f) (fun _=>true)) (lnN (mbF (shG n f)) (wrF (shG n f)) n) (fun k i=>ofNat (coN (mbF (shG n f)) (wrF (shG n f)) n k i)) b c) L)) (ent7 a n f) = true):(finF (evalF tab ⟨callT tb7,(onP 0 p0 (en7e a n f (ofNat (ttN n (shG n f))) (kkN n (shG n f)) (shG n f) (evF n (shG n f) (fun _=>true)) (rfF n (shG n f) (fun _=>true)) (lnN (mbF (shG n f)) (wrF (shG n f)) n) (fun k i=>ofNat (coN (mbF (shG n f)) (wrF (shG n f)) n k i)) b c) L),Gl⟩ Try.f7 [iV a,.sl 6 n fun i=>eV (f i)] [])).sem = some ((bV true),[]):=by
  exact sem_of_path (ds:=bbK 21 2097143) (cs:=((fun c0 c1 c2 c3=>[c0,c1,(ieq (chkE a n f) 0),(bnot (ieq 0 0)),(p0 (body7 (onP 0 p0 (en7e a n f (ofNat (ttN n (shG n f))) (kkN n (shG n f)) (shG n f) (evF n (shG n f) (fun _=>true)) (rfF n (shG n f) (fun _=>true)) (lnN (mbF (shG n f)) (wrF (shG n f)) n) (fun k i=>ofNat (coN (mbF (shG n f)) (wrF (shG n f)) n k i)) b c) L)) (ent7 a n f)),(jagsLive [(.row 44 6 n (fun i=>(eV (shG n f i)))),(.row 40 5 n (fun i=>(.agg [(iV ((evF n (shG n f) (fun _=>true) i)).th),(iV ((evF n (shG n f) (fun _=>true) i)).pl),(iV ((evF n (shG n f) (fun _=>true) i)).dir),(iV ((evF n (shG n f) (fun _=>true) i)).loc),(iV ((evF n (shG n f) (fun _=>true) i)).val)]))),(.row 3 1 n (fun i=>(iV (rfF n (shG n f) (fun _=>true) i)))),(.jag (Jag.mk 25 1 (kkN n (shG n f)) (fun _=>.und) 0 3 1 (fun _=>true) (lnN (mbF (shG n f)) (wrF (shG n f)) n) (fun k i=>(iV (ofNat (coN (mbF (shG n f)) (wrF (shG n f)) n k i)))))),(.cells [(iV a),(.ref 0),(.ref 1),(iV (ofNat (ttN n (shG n f)))),(iV (ofNat (kkN n (shG n f)))),(.ref 2),(.jref 3)])]),c0,c0,c0,(allN (kkN n (shG n f)) (fun i=>(allN (lnN (mbF (shG n f)) (wrF (shG n f)) n i) (fun _=>true)))),c1,(fit8 n),(band (smallN n) (band (smallN n) (band (smallN n) (band (smallN (kkN n (shG n f))) (allN (kkN n (shG n f)) (fun i=>(smallN (lnN (mbF (shG n f)) (wrF (shG n f)) n i)))))))),(checkS (Sh7.mk a n (fun i=>(shG n f i)) n (fun i=>(evF n (shG n f) (fun _=>true) i)) (ofNat (ttN n (shG n f))) (ofNat (kkN n (shG n f))) n (rfF n (shG n f) (fun _=>true)) (kkN n (shG n f)) (fun i=>((lnN (mbF (shG n f)) (wrF (shG n f)) n i),(fun i_1=>(ofNat (coN (mbF (shG n f)) (wrF (shG n f)) n i i_1))))))),(bor (ilt (ofNat (ttN n (shG n f))) 0) (ile (ofNat (ttN n (shG n f))) (ofNat (ttN n (shG n f))))),(rowsBare [(.row 3 1 0 (fun _=>.und))]),c2,c2,c2,c3,c3]) (allN n (fun _=>true)) (fitN n) (ieq (ofNat c) (ofNat n)) (ieq 4 4))) (by kernel_rfl) (by simp only [hp0] <;> simp only [h22,h0,h23,h24,h25,h26,h27,h28,h29,h1,h2,h30,h3,allN_true,ieq_self] <;> rfl)
theorem ent7_2_eq (a:Int) (n:Nat) (f:Nat->E6) (t:Int) (q:Nat) (g:Nat->E6) (x:Nat->Ev5) (r:Nat->Int) (ln:Nat->Nat) (co:Nat->Nat->Int) (b c:Nat) (j:Nat->V) :
    ent7_2 a n f t q g x r ln co b c j = st7_2 a n f t q g x r ln co b c 0 (cntB (fun i=>(ieq ((x i)).th (ofNat b))) n) (selN (fun i=>(ieq ((x i)).th (ofNat b))) n) (fun i=>nth (ent7_2 a n f t q g x r ln co b c j).t i):=by kernel_rfl
theorem ent7_eq (a:Int) (n:Nat) (f:Nat->E6):ent7 a n f = st7 a n f (ofNat (ttN n (shG n f))) (kkN n (shG n f)) (shG n f) (evF n (shG n f) (fun _=>true)) (rfF n (shG n f) (fun _=>true)) (lnN (mbF (shG n f)) (wrF (shG n f)) n) (fun k i=>ofNat (coN (mbF (shG n f)) (wrF (shG n f)) n k i)) 0 0 (fun i=>nth (ent7 a n f).t i):=by kernel_rfl
theorem run7i (L:LT) (a:Int) (n:Nat) (f:Nat->E6) (t:Int) (q:Nat) (g:Nat->E6) (x:Nat->Ev5) (r:Nat->Int) (ln:Nat->Nat) (co:Nat->Nat->Int) (b c m:Nat) (l:Nat->Nat)
    (hn:n <= 16) (hcm:c+m <= n) (hm:∀ d,d < m->l d = c+d ∧ (x (c+d)).th = ofNat b ∧ (x (c+d)).pl = ofNat d):∀ (e d:Nat) (j:Nat->V) (u:Nat),m = d+e->e < u ->
    (iterT (body7_2 L) (lp7_2 a n f) u (st7_2 a n f t q g x r ln co b c d m l j)).sem = some (en7_2e a n f t q g x r ln co b c m 0 (fun _=>0))
  | 0,d,j,u+1,h,_=>by
    have:m = d:=by omega
    subst this
    exact iter_round (ru7e L a n f t q g x r ln co b c m m l j (ofNat_ge (Nat.le_refl _)))
  | e+1,d,j,u+1,h,h2=>by
    have hl:d < m:=by omega
    have hcn:c+d < n:=by omega
    obtain ⟨h1,h2,h3⟩:=hm d hl
    have next:=run7i L a n f t q g x r ln co b c m l hn hcm hm e (d+1) (fun _=>.und) u (by omega) (by omega)
    rw [iter_round (ru7n L a n f t q g x r ln co b c d m l j (ofNat_lt hl) (ofNat_lt_ge hcn) (ofNat_0 d) (decide_eq_true hl) (by rw [h1]; exact ieq_rfl _) (by rw [band_t (ofNat_0 _)]; exact ofNat_lt hcn) (decide_eq_true hcn) (ieq_of h2) (ieq_of h3)),goOn_nm,succ_wr hl (by omega)]
    rw [show wr .i64 (iadd (ofNat (nadd c d)) 1) = ofNat (c+(d+1)) from succ_wr hcn (by omega)]
    exact next
theorem run7 (M:LT) (hMM:LLe M M) (a:Int) (n:Nat) (f:Nat->E6) (tt q:Nat) (g:Nat->E6) (x:Nat->Ev5) (r:Nat->Int) (ln:Nat->Nat) (co:Nat->Nat->Int)
    (m2:∀ g st,M 2 g st = iterT g (lp7_2 a n f) 18 st) (hn:n <= 16) (htt:tt <= n) (hf:fitN n = true) (h8:fit8 n = true) (n1:smallN n = true) (n2:smallN q = true) (n3:(allN q fun i=>smallN (ln i)) = true)
    (hck:checkS (Sh7.mk a n g n x (ofNat tt) (ofNat q) n r q (fun i=>((ln i),(co i)))) = true) (s:Nat->Nat) (hs:∀ b,s b <= n)
    (hm:∀ b,b < tt->∃ m,m = cntB (fun i=>(ieq ((x i)).th (ofNat b))) n ∧ 0 < m ∧ m <= 12 ∧ s (b+1) = s b+m ∧ ∀ d,d < m->selN (fun i=>(ieq ((x i)).th (ofNat b))) n d = s b+d ∧ (x (s b+d)).th = ofNat b ∧ (x (s b+d)).pl = ofNat d):∀ (e b:Nat) (j:Nat->V) (u:Nat),tt = b+e->e < u ->
    (iterT (body7 M) (lp7 a n f) u (st7 a n f (ofNat tt) q g x r ln co b (s b) j)).sem = some (en7e a n f (ofNat tt) q g x r ln co tt (s tt))
  | 0,b,j,u+1,h,_=>by
    have:tt = b:=by omega
    subst this
    exact iter_round (rt7e M a n f (ofNat tt) q g x r ln co tt (s tt) j (ofNat_ge (Nat.le_refl _)))
  | e+1,b,j,u+1,h,h2=>by
    have hl:b < tt:=by omega
    obtain ⟨m,hm1,h0,h12,hs1,hm2⟩:=hm b hl
    have hsb:=hs (b+1)
    have hi:∀ M',(M 2 (body7_2 M') (ent7_2 a n f (ofNat tt) q g x r ln co b (s b) j)).sem = some (en7_2e a n f (ofNat tt) q g x r ln co b (s b) m 0 (fun _=>0)):=fun M'=>by
      rw [m2,ent7_2_eq,<- hm1]
      exact run7i M' a n f (ofNat tt) q g x r ln co b (s b) m _ hn (by omega) hm2 m 0 _ 18 (by omega) (by omega)
    have next:=run7 M hMM a n f tt q g x r ln co m2 hn htt hf h8 n1 n2 n3 hck s hs hm e (b+1) (fun _=>.und) u (by omega) (by omega)
    rw [hm1] at h0 h12
    have h3:=rt7n M _ a n f (ofNat tt) q g x r ln co b (s b) m j (ofNat_lt hl) (by simp [jagsLive]) (all2 () ()) hf h8 n1 n2 n3 hck (neg_nat b) (ofNat_lt_ge hl) rowsBare_ints (pos_nat h0) (le12 h12) (isP_true (hi _))
    have h4:roundT (body7 M) (lp7 a n f) (st7 a n f (ofNat tt) q g x r ln co b (s b) j) = _:=roundT_le (l:=lp7 a n f) (evalC_le (Γ:=⟨callT tb7,M,Gl⟩) (onP_le hMM hMM) (loopBody Try.f7 0) 0 (st7 a n f (ofNat tt) q g x r ln co b (s b) j)) h3
    rw [iter_round h4,goOn_nm,succ_wr hl (by omega)]
    rw [hs1] at next
    exact next
def lawT:List V->T (V × List Blk)
  | [.val (.int .i64 _),v]=>apL v fun n _=>.br (fitN n) (out (bV true)) .fail
  | _=>.fail
theorem law_sem {a:Int} {n:Nat} (f:Nat->E6) (hn:n * 40 <= 140737488351232):(lawT [iV a,edgesV n f]).sem = some (bV true,[]):=by
  show (apL (edgesV n f) fun n f=>T.br (fitN n) (out (bV true)) .fail).sem = _
  rw [apLsem]
  have hn:fitN n = true:=decide_eq_true (by omega)
  simp only [hn]
  rfl
theorem p7:PureC Try.prog Gl 7 lawT:=by
  refine pureC_intro tabOK mixed Try.func7 (by kernel_rfl) (by kernel_rfl) fun vs v h' h=>?_
  unfold lawT at h
  split at h
  · rename_i a u
    obtain ⟨n,f,ha,h1⟩:=apL_some h
    obtain ⟨hf,hq⟩:=sem_br_fail h1
    have:=sem_leaf hq
    simp only [Prod.mk.injEq] at this
    obtain ⟨rfl,rfl⟩:=this
    have hx:=cx_ok tb7_ok [(0,lp7 a n f),(2,lp7_2 a n f)]
    have hL:=loopsBy_le [(0,lp7 a n f),(2,lp7_2 a n f)]
    cases hc:ieq (chkE a n f) 0 with
    | false=>exact ⟨_,cxOf Gl tb7 [(0,lp7 a n f),(2,lp7_2 a n f)],_,argI ha,rfl,hx.1,hx.2,w7e _ a n f hf hc,RowsLE.refl _⟩
    | true =>
      have hy:=isCycle_of hc
      have hhi:=hy.hi
      have hk:kkN n (shG n f) <= 16:=Nat.le_trans (cntB_le _ _) hhi
      have hg:=shG_cycle hy
      have hlast:=shG_last hy
      have ht:ttN n (shG n f) <= n:=cntB_le _ _
      have hrun:=fun M hM m2 j=>run7 M hM a n f (ttN n (shG n f)) (kkN n (shG n f)) (shG n f) (evF n (shG n f) (fun _=>true)) (rfF n (shG n f) (fun _=>true)) (lnN (mbF (shG n f)) (wrF (shG n f)) n) (fun k i=>ofNat (coN (mbF (shG n f)) (wrF (shG n f)) n k i))
        m2 hhi ht hf (fit_8 hf) (small_16 hhi) (small_16 hk) (allN_iff.2 fun _ _=>small_ln hhi) (check_of hy) (sT (obF (shG n f)) n) (sT_le _ _) (fun b hb=>thread_ok hg hlast hb) (ttN n (shG n f)) 0 j 18 (by omega) (by omega)
      rw [sT_0,show sT (obF (shG n f)) n (ttN n (shG n f)) = n from sT_all hlast] at hrun
      refine ⟨_,cxOf Gl tb7 [(0,lp7 a n f),(2,lp7_2 a n f)],_,argI ha,rfl,hx.1,hx.2,?_,RowsLE.refl _⟩
      have hQ:=onP_le (k:=0) (r:=en7e a n f (ofNat (ttN n (shG n f))) (kkN n (shG n f)) (shG n f) (evF n (shG n f) (fun _=>true)) (rfF n (shG n f) (fun _=>true)) (lnN (mbF (shG n f)) (wrF (shG n f)) n) (fun k i=>ofNat (coN (mbF (shG n f)) (wrF (shG n f)) n k i)) (ttN n (shG n f)) n) hL hL
      refine told_le hQ _ (w7o _ _ a n f (ttN n (shG n f)) n hf hc (by simp [jagsLive]) (all2 () ()) (fit_8 hf) (small_16 hhi) (small_16 hk) (allN_iff.2 fun _ _=>small_ln hhi) (check_of hy) (neg_nat _) (le_refl_nat _) rowsBare_none (ieq_rfl _) (isP_true ?_))
      show (iterT _ (lp7 a n f) 18 (ent7 a n f)).sem = _
      rw [ent7_eq]
      exact hrun _ (isPle2 hL hL 0 _) (fun g st=>rfl) _
  · cases h
end Go.Proofs.Ytjhnfomefcngfaa.Sh
