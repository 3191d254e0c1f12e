/-
  Layer 7: the law ShapeOf, as a function: the program's shape of any edges is the document's. No conditions.
-/
import Derived.Test.YtjhnfomefcngfaaShH
import Derived.Test.YtjhnfomefcngfaaChecked
import Derived.ProofKit
import Derived.OpenShut
import Derived.Deep.DeepHandedRow
namespace Go.Proofs.Ytjhnfomefcngfaa.Sh
open Go.Sy Ed
open Int (ofNat)
set_option maxHeartbeats 1000000
set_option maxRecDepth 4000
theorem canF_congr {n:Nat} {f l:Nat->E6} (hm:mayN n f = true) (hl:∀ i,i < n->l i = f i) {i:Nat} (hi:i < n):canF n l i = canF n f i:=by
  rw [can_ref hm hl i hi,can_ref hm (fun _ _=>rfl) i hi]
theorem shG_congr {n:Nat} {f l:Nat->E6} (hm:mayN n f = true) (hl:∀ i,i < n->l i = f i):shG n l = shG n f:=by
  have hq:shQ n l = shQ n f:=by
    unfold shQ
    rw [lstN_congr (p:=fun i=>outB (canF n l i)) (q:=fun i=>outB (canF n f i)) fun i hi=>by rw [canF_congr hm hl hi]]
  funext i
  unfold shG cutE
  by_cases hi:i < n
  · rw [decide_eq_true hi,hq]
    exact canF_congr hm hl (Nat.mod_lt _ (by omega))
  · rw [decide_eq_false hi]
    rfl
theorem small_16 {k:Nat} (h:k <= 16):smallN k = true:=decide_eq_true (by omega)
theorem sameB_rfl (n:Nat) (f:Nat->E6):sameB n f n f = true:=sameB_at.2 ⟨rfl,fun _ _=>rfl⟩
theorem sameI_rfl (n:Nat) (f:Nat->Int):sameI n f n f = true:=by
  unfold sameI
  rw [band_t (ieq_self _)]
  exact allN_iff.2 fun _ _=>ieq_self _
theorem sameJ_rfl (n:Nat) (ln:Nat->Nat) (co:Nat->Nat->Int):sameJ n ln co n ln co = true:=by
  unfold sameJ
  rw [band_t (ieq_self _)]
  exact allN_iff.2 fun _ _=>sameI_rfl _ _
theorem sameX_rfl (e:Ev5):sameX e e = true:=by
  unfold sameX
  rw [band_t (ieq_self _),band_t (ieq_self _),band_t (ieq_self _),band_t (ieq_self _),band_t (ieq_self _)]
theorem ln_le (m w:Nat->Bool) (n k:Nat) (h:lenN m n (stN m n k) <= n+1):lnN m w n k <= n+1:=Nat.le_trans (cntB_le _ _) h
theorem len_le (m:Nat->Bool) (n b:Nat):lenN m n b <= n+1:=by
  unfold lenN
  have:=lstN_le (fun t=>m (rnd n b t)) n
  omega
theorem small_ln {m w:Nat->Bool} {n k:Nat} (h:n <= 16):smallN (lnN m w n k) = true:=decide_eq_true (by
  have:=ln_le m w n k (len_le m n _)
  omega)
noncomputable def tb3:List (Nat × (List V->T (V × List Blk))):=[(13,lentT),(14,ofT),(15,ofT),(16,sameST),(17,keptT),(18,unitT (bV true))]
theorem tb3_ok:AllPure Try.prog Gl tb3:=.cons p47 <| .cons p14 <| .cons p15 <| .cons p16 <| .cons p50 <| .cons p18 .nil
section
variable (L:LT) (a:Int) (n:Nat) (f:Nat->E6)
include L a n f
theorem w3o (h25:fitN (nadd n 60) = true) (h26:fitN n = true) (h0:ieq (chkE a n (fun i=>(lentE n f i))) 0 = true) (h1:ieq (chkE a n f) 0 = true) (h27:jagsLive [(.row 44 6 n (fun i=>(eV (shG n (fun i=>(lentE n f i)) i)))),(.row 40 5 n (fun i=>(.agg [(iV ((evF n (shG n (fun i=>(lentE n f i))) (fun _=>true) i)).th),(iV ((evF n (shG n (fun i=>(lentE n f i))) (fun _=>true) i)).pl),(iV ((evF n (shG n (fun i=>(lentE n f i))) (fun _=>true) i)).dir),(iV ((evF n (shG n (fun i=>(lentE n f i))) (fun _=>true) i)).loc),(iV ((evF n (shG n (fun i=>(lentE n f i))) (fun _=>true) i)).val)]))),(.row 3 1 n (fun i=>(iV (rfF n (shG n (fun i=>(lentE n f i))) (fun _=>true) i)))),(.jag (Jag.mk 25 1 (kkN n (shG n (fun i=>(lentE n f i)))) (fun _=>.und) 0 3 1 (fun _=>true) (lnN (mbF (shG n (fun i=>(lentE n f i)))) (wrF (shG n (fun i=>(lentE n f i)))) n) (fun k i=>(iV (ofNat (coN (mbF (shG n (fun i=>(lentE n f i)))) (wrF (shG n (fun i=>(lentE n f i)))) n k i)))))),(.cells [(iV a),(.ref 0),(.ref 1),(iV (ofNat (ttN n (shG n (fun i=>(lentE n f i)))))),(iV (ofNat (kkN n (shG n (fun i=>(lentE n f i)))))),(.ref 2),(.jref 3)]),(.row 44 6 n (fun i=>(eV (shG n f i)))),(.row 40 5 n (fun i=>(.agg [(iV ((evF n (shG n f) (fun _=>true) i)).th),(iV ((evF n (shG n f) (fun _=>true) i)).pl),(iV ((evF n (shG n f) (fun _=>true) i)).dir),(iV ((evF n (shG n f) (fun _=>true) i)).loc),(iV ((evF n (shG n f) (fun _=>true) i)).val)]))),(.row 3 1 n (fun i=>(iV (rfF n (shG n f) (fun _=>true) i)))),(.jag (Jag.mk 25 1 (kkN n (shG n f)) (fun _=>.und) 0 3 1 (fun _=>true) (lnN (mbF (shG n f)) (wrF (shG n f)) n) (fun k i=>(iV (ofNat (coN (mbF (shG n f)) (wrF (shG n f)) n k i)))))),(.cells [(iV a),(.ref 5),(.ref 6),(iV (ofNat (ttN n (shG n f)))),(iV (ofNat (kkN n (shG n f)))),(.ref 7),(.jref 8)])] = true) (h28:allN (kkN n (shG n (fun i=>(lentE n f i)))) (fun i=>(allN (lnN (mbF (shG n (fun i=>(lentE n f i)))) (wrF (shG n (fun i=>(lentE n f i)))) n i) (fun _=>true))) = true) (h29:allN (kkN n (shG n f)) (fun i=>(allN (lnN (mbF (shG n f)) (wrF (shG n f)) n i) (fun _=>true))) = true) (h30:smallN n = true) (h31:smallN (kkN n (shG n (fun i=>(lentE n f i)))) = true) (h32:allN (kkN n (shG n (fun i=>(lentE n f i)))) (fun i=>(smallN (lnN (mbF (shG n (fun i=>(lentE n f i)))) (wrF (shG n (fun i=>(lentE n f i)))) n i))) = true) (h33:ieq (ofNat (ttN n (shG n (fun i=>(lentE n f i))))) (ofNat (ttN n (shG n f))) = true) (h34:ieq (ofNat (kkN n (shG n (fun i=>(lentE n f i))))) (ofNat (kkN n (shG n f))) = true) (h35:sameB n (fun i=>(shG n (fun i=>(lentE n f i)) i)) n (fun i=>(shG n f i)) = true) (h36:sameI n (rfF n (shG n (fun i=>(lentE n f i))) (fun _=>true)) n (rfF n (shG n f) (fun _=>true)) = true) (h37:sameJ (kkN n (shG n (fun i=>(lentE n f i)))) (lnN (mbF (shG n (fun i=>(lentE n f i)))) (wrF (shG n (fun i=>(lentE n f i)))) n) (fun i i_1=>(ofNat (coN (mbF (shG n (fun i=>(lentE n f i)))) (wrF (shG n (fun i=>(lentE n f i)))) n i i_1))) (kkN n (shG n f)) (lnN (mbF (shG n f)) (wrF (shG n f)) n) (fun i i_1=>(ofNat (coN (mbF (shG n f)) (wrF (shG n f)) n i i_1))) = true) (h38:allN n (fun k=>(sameX (evF n (shG n (fun i=>(lentE n f i))) (fun _=>true) k) (evF n (shG n f) (fun _=>true) k))) = true) (h39:keptB n (nadd n 40) (fun i=>(lentE n f i)) n f = true):(finF (evalF tab ⟨callT tb3,L,Gl⟩ Try.f3 [iV a,.sl 6 n fun i=>eV (f i)] [])).sem = some ((bV true),[]):=by
  exact sem_of_path (ds:=bbK 36 68719476735) (cs:=((fun c0 c1 c2 c3 c4 c5=>[c0,c1,c0,c2,(ieq (chkE a n (fun i=>(lentE n f i))) 0),c0,c2,(ieq (chkE a n f) 0),(jagsLive [(.row 44 6 n (fun i=>(eV (shG n (fun i=>(lentE n f i)) i)))),(.row 40 5 n (fun i=>(.agg [(iV ((evF n (shG n (fun i=>(lentE n f i))) (fun _=>true) i)).th),(iV ((evF n (shG n (fun i=>(lentE n f i))) (fun _=>true) i)).pl),(iV ((evF n (shG n (fun i=>(lentE n f i))) (fun _=>true) i)).dir),(iV ((evF n (shG n (fun i=>(lentE n f i))) (fun _=>true) i)).loc),(iV ((evF n (shG n (fun i=>(lentE n f i))) (fun _=>true) i)).val)]))),(.row 3 1 n (fun i=>(iV (rfF n (shG n (fun i=>(lentE n f i))) (fun _=>true) i)))),(.jag (Jag.mk 25 1 (kkN n (shG n (fun i=>(lentE n f i)))) (fun _=>.und) 0 3 1 (fun _=>true) (lnN (mbF (shG n (fun i=>(lentE n f i)))) (wrF (shG n (fun i=>(lentE n f i)))) n) (fun k i=>(iV (ofNat (coN (mbF (shG n (fun i=>(lentE n f i)))) (wrF (shG n (fun i=>(lentE n f i)))) n k i)))))),(.cells [(iV a),(.ref 0),(.ref 1),(iV (ofNat (ttN n (shG n (fun i=>(lentE n f i)))))),(iV (ofNat (kkN n (shG n (fun i=>(lentE n f i)))))),(.ref 2),(.jref 3)]),(.row 44 6 n (fun i=>(eV (shG n f i)))),(.row 40 5 n (fun i=>(.agg [(iV ((evF n (shG n f) (fun _=>true) i)).th),(iV ((evF n (shG n f) (fun _=>true) i)).pl),(iV ((evF n (shG n f) (fun _=>true) i)).dir),(iV ((evF n (shG n f) (fun _=>true) i)).loc),(iV ((evF n (shG n f) (fun _=>true) i)).val)]))),(.row 3 1 n (fun i=>(iV (rfF n (shG n f) (fun _=>true) i)))),(.jag (Jag.mk 25 1 (kkN n (shG n f)) (fun _=>.und) 0 3 1 (fun _=>true) (lnN (mbF (shG n f)) (wrF (shG n f)) n) (fun k i=>(iV (ofNat (coN (mbF (shG n f)) (wrF (shG n f)) n k i)))))),(.cells [(iV a),(.ref 5),(.ref 6),(iV (ofNat (ttN n (shG n f)))),(iV (ofNat (kkN n (shG n f)))),(.ref 7),(.jref 8)])]),c0,c0,c0,(allN (kkN n (shG n (fun i=>(lentE n f i)))) (fun i=>(allN (lnN (mbF (shG n (fun i=>(lentE n f i)))) (wrF (shG n (fun i=>(lentE n f i)))) n i) (fun _=>true)))),c0,c0,c0,(allN (kkN n (shG n f)) (fun i=>(allN (lnN (mbF (shG n f)) (wrF (shG n f)) n i) (fun _=>true)))),(band (smallN n) (band (smallN n) (band (smallN n) (band (smallN (kkN n (shG n (fun i=>(lentE n f i))))) (allN (kkN n (shG n (fun i=>(lentE n f i)))) (fun i=>(smallN (lnN (mbF (shG n (fun i=>(lentE n f i)))) (wrF (shG n (fun i=>(lentE n f i)))) n i)))))))),c3,c3,c3,c3,c4,c4,c4,c4,c4,c4,c4,(allN (nadd n 40) (fun _=>true)),c0,c1,(keptB n (nadd n 40) (fun i=>(lentE n f i)) n f),c4,c5,c5]) (allN n (fun _=>true)) (fitN (nadd n 60)) (fitN n) (band (ieq a a) (band (ieq (ofNat (ttN n (shG n (fun i=>(lentE n f i))))) (ofNat (ttN n (shG n f)))) (band (ieq (ofNat (kkN n (shG n (fun i=>(lentE n f i))))) (ofNat (kkN n (shG n f)))) (band (sameB n (fun i=>(shG n (fun i=>(lentE n f i)) i)) n (fun i=>(shG n f i))) (band (ieq (ofNat n) (ofNat n)) (band (sameI n (rfF n (shG n (fun i=>(lentE n f i))) (fun _=>true)) n (rfF n (shG n f) (fun _=>true))) (band (sameJ (kkN n (shG n (fun i=>(lentE n f i)))) (lnN (mbF (shG n (fun i=>(lentE n f i)))) (wrF (shG n (fun i=>(lentE n f i)))) n) (fun i i_1=>(ofNat (coN (mbF (shG n (fun i=>(lentE n f i)))) (wrF (shG n (fun i=>(lentE n f i)))) n i i_1))) (kkN n (shG n f)) (lnN (mbF (shG n f)) (wrF (shG n f)) n) (fun i i_1=>(ofNat (coN (mbF (shG n f)) (wrF (shG n f)) n i i_1)))) (allN n (fun k=>(sameX (evF n (shG n (fun i=>(lentE n f i))) (fun _=>true) k) (evF n (shG n f) (fun _=>true) k))))))))))) (ieq 0 0) (true))) (by kernel_rfl) (by simp only [h25,h26,h0,h1,h27,h28,h29,h30,h31,h32,h33,h34,h35,h36,h37,h38,h39,allN_true,ieq_self] <;> rfl)
theorem w3e (h25:fitN (nadd n 60) = true) (h26:fitN n = true) (h0:ieq (chkE a n (fun i=>(lentE n f i))) 0 = false) (h1:ieq (chkE a n f) 0 = false) (h27:jagsLive [(.row 44 6 0 (fun _=>.und)),(.row 40 5 0 (fun _=>.und)),(.row 3 1 0 (fun _=>.und)),(.jag (Jag.mk 25 1 0 (fun _=>.und) 0 3 1 (fun _=>true) (fun _=>0) (fun _ _=>.und))),(.cells [(iV 0),(.ref 0),(.ref 1),(iV 0),(iV 0),(.ref 2),(.jref 3)]),(.row 44 6 0 (fun _=>.und)),(.row 40 5 0 (fun _=>.und)),(.row 3 1 0 (fun _=>.und)),(.jag (Jag.mk 25 1 0 (fun _=>.und) 0 3 1 (fun _=>true) (fun _=>0) (fun _ _=>.und))),(.cells [(iV 0),(.ref 5),(.ref 6),(iV 0),(iV 0),(.ref 7),(.jref 8)])] = true) (h28:allN 0 (fun _=>false) = true) (h29:allN 0 (fun _=>(allN 0 (fun _=>false))) = true) (h30:smallN 0 = true) (h31:allN 0 (fun _=>(smallN 0)) = true) (h32:sameB 0 (fun _=>(E6.mk 0 false false 0 0 0)) 0 (fun _=>(E6.mk 0 false false 0 0 0)) = true) (h33:sameI 0 (fun _=>0) 0 (fun _=>0) = true) (h34:sameJ 0 (fun _=>0) (fun _ _=>0) 0 (fun _=>0) (fun _ _=>0) = true) (h35:allN 0 (fun _=>(sameX (Ev5.mk 0 0 0 0 0) (Ev5.mk 0 0 0 0 0))) = true) (h36:ieq (chkE a n (fun i=>(lentE n f i))) (chkE a n f) = true) (h37:ieq (chkI a n (fun i=>(lentE n f i))) (chkI a n f) = true) (h38:keptB n (nadd n 40) (fun i=>(lentE n f i)) n f = true):(finF (evalF tab ⟨callT tb3,L,Gl⟩ Try.f3 [iV a,.sl 6 n fun i=>eV (f i)] [])).sem = some ((bV true),[]):=by
  exact sem_of_path (ds:=bbK 36 68719476591) (cs:=((fun c0 c1 c2 c3 c4 c5 c6 c7 c8=>[c0,c1,c0,c2,(ieq (chkE a n (fun i=>(lentE n f i))) 0),c0,c2,(ieq (chkE a n f) 0),(jagsLive [(.row 44 6 0 (fun _=>.und)),(.row 40 5 0 (fun _=>.und)),(.row 3 1 0 (fun _=>.und)),(.jag (Jag.mk 25 1 0 (fun _=>.und) 0 3 1 (fun _=>true) (fun _=>0) (fun _ _=>.und))),(.cells [(iV 0),(.ref 0),(.ref 1),(iV 0),(iV 0),(.ref 2),(.jref 3)]),(.row 44 6 0 (fun _=>.und)),(.row 40 5 0 (fun _=>.und)),(.row 3 1 0 (fun _=>.und)),(.jag (Jag.mk 25 1 0 (fun _=>.und) 0 3 1 (fun _=>true) (fun _=>0) (fun _ _=>.und))),(.cells [(iV 0),(.ref 5),(.ref 6),(iV 0),(iV 0),(.ref 7),(.jref 8)])]),c3,c3,c3,c4,c3,c3,c3,c4,(band (smallN 0) (band (smallN 0) (band (smallN 0) (band (smallN 0) (allN 0 (fun _=>(smallN 0))))))),c5,c5,c5,c5,c6,c6,c6,c6,c7,c7,c7,(allN (nadd n 40) (fun _=>true)),c0,c1,(keptB n (nadd n 40) (fun i=>(lentE n f i)) n f),c7,c8,c8]) (allN n (fun _=>true)) (fitN (nadd n 60)) (fitN n) (allN 0 (fun _=>false)) (allN 0 (fun _=>(allN 0 (fun _=>false)))) (band (ieq 0 0) (band (ieq 0 0) (band (ieq 0 0) (band (sameB 0 (fun _=>(E6.mk 0 false false 0 0 0)) 0 (fun _=>(E6.mk 0 false false 0 0 0))) (band (ieq 0 0) (band (sameI 0 (fun _=>0) 0 (fun _=>0)) (band (sameJ 0 (fun _=>0) (fun _ _=>0) 0 (fun _=>0) (fun _ _=>0)) (allN 0 (fun _=>(sameX (Ev5.mk 0 0 0 0 0) (Ev5.mk 0 0 0 0 0))))))))))) (ieq (chkE a n (fun i=>(lentE n f i))) (chkE a n f)) (ieq (chkI a n (fun i=>(lentE n f i))) (chkI a n f)) (true))) (by kernel_rfl) (by simp only [h25,h26,h0,h1,h27,h28,h29,h30,h31,h32,h33,h34,h35,h36,h37,h38,allN_true,ieq_self] <;> rfl)
end
def law3T:List V->T (V × List Blk)
  | [.val (.int .i64 a),v]=>apL v fun n f=>.br (fitN (nadd n 60)) (out (bV true)) .fail
  | _=>.fail
theorem p3:PureC Try.prog Gl 3 law3T:=by
  refine pureC_intro tabOK mixed Try.func3 (by kernel_rfl) (by kernel_rfl) fun vs v h' h=>?_
  unfold law3T at h
  split at h
  · rename_i a u
    obtain ⟨n,f,ha,h1⟩:=apL_some h
    obtain ⟨hn,hq⟩:=sem_br_fail h1
    have:=sem_leaf hq
    simp only [Prod.mk.injEq] at this
    obtain ⟨rfl,rfl⟩:=this
    have hx:=cx_ok tb3_ok []
    have hcr:chkR a n (fun i=>lentE n f i) = chkR a n f:=chkR_congr fun i hi=>lentE_lt hi
    have hce:chkE a n (fun i=>lentE n f i) = chkE a n f:=by unfold chkE; rw [hcr]
    have hci:chkI a n (fun i=>lentE n f i) = chkI a n f:=by unfold chkI; rw [hcr]
    have hf:=fit60 hn
    refine ⟨_,cxOf Gl tb3 [],_,argI ha,rfl,hx.1,hx.2,?_,RowsLE.refl _⟩
    cases hc:ieq (chkE a n f) 0 with
    | true =>
      have hy:=isCycle_of hc
      have hhi:=hy.hi
      have hs:shG n (fun i=>lentE n f i) = shG n f:=shG_congr hy.may fun i hi=>lentE_lt hi
      have hk:∀ g,kkN n g <= 16:=fun g=>Nat.le_trans (cntB_le _ _) hhi
      exact w3o _ a n f hn hf (by rw [hce]; exact hc) hc (by simp [jagsLive]) (allN_iff.2 fun _ _=>allN_iff.2 fun _ _=>rfl) (allN_iff.2 fun _ _=>allN_iff.2 fun _ _=>rfl) (small_16 hhi) (small_16 (hk _)) (allN_iff.2 fun _ _=>small_ln hhi) (by rw [hs]; exact ieq_rfl _) (by rw [hs]; exact ieq_rfl _) (by rw [hs]; exact sameB_rfl _ _) (by rw [hs]; exact sameI_rfl _ _) (by rw [hs]; exact sameJ_rfl _ _ _) (by rw [hs]; exact allN_iff.2 fun _ _=>sameX_rfl _) (kept_lent n f)
    | false=>exact w3e _ a n f hn hf (by rw [hce]; exact hc) hc (by simp [jagsLive]) rfl rfl rfl rfl rfl rfl rfl rfl (by rw [hce]; exact ieq_rfl _) (by rw [hci]; exact ieq_rfl _) (kept_lent n f)
  · cases h
theorem law3_sem {a:Int} {n:Nat} (f:Nat->E6) (hn:n * 40 <= 140737488351232):(law3T [iV a,edgesV n f]).sem = some (bV true,[]):=by
  show (apL (edgesV n f) fun n f=>T.br (fitN (nadd n 60)) (out (bV true)) .fail).sem = _
  rw [apLsem]
  have hn:fitN (nadd n 60) = true:=decide_eq_true (by show (n+60) * 40 <= _; omega)
  simp only [hn]
  rfl
end Go.Proofs.Ytjhnfomefcngfaa.Sh
namespace Go.Proofs.Ytjhnfomefcngfaa.Sh
open Go.Sy Ed
set_option maxRecDepth 100000
theorem own:ownKnob Try.prog.godebug = none:=by kernel_rfl
theorem laidOut:laidOutB Try.prog = true:=by kernel_rfl
def cellsE (e:E6):List Value:=[.int .i64 e.kind,.bool e.ext,.bool e.same,.int .i64 e.src,.int .i64 e.dst,.int .i64 e.fence]
section
variable {H:Type} {enc:TypeId × Value->H} {W:World} {sp:Nat->Bool} {held:Bool} {r:Reach} {b0:Nat} {v:Value} {d:DataW H} {ps:List MemPlace}
theorem one_cell {c d:Value} {cs:List Value} (h:cs = [d]) (hc:[c] = cs):c = d:=by
  subst h
  simpa using hc
theorem edge_cells (fuel:Nat) (cs:List Value) (x:DataW H × List MemPlace) (h:DataW.trod enc Try.prog W 0 sp held fuel 44 cs = some x):∃ e:E6,cs = cellsE e:=by
  obtain ⟨xs,n,_,_,hl,hx,hf⟩:=DataW.trod_struct Try.underlying44 h
  have hl:cs.length = 6:=hl.trans (by kernel_rfl)
  have hx:xs.length = 6:=hx
  obtain ⟨c0,c1,c2,c3,c4,c5,rfl⟩:∃ a b c d e f,cs = [a,b,c,d,e,f]:=by
    match cs,hl with
    | [a,b,c,d,e,f],_=>exact ⟨a,b,c,d,e,f,rfl⟩
  have get:∀ (i:Nat) (f:Field),#[({ name := "Kind",type:=3,offset:=0,embedded:=false,tag := "",pkgPath := "",byteOffset:=0 }:Field),
        { name := "Ext",type:=4,offset:=1,embedded:=false,tag := "",pkgPath := "",byteOffset:=8 },
        { name := "Same",type:=4,offset:=2,embedded:=false,tag := "",pkgPath := "",byteOffset:=9 },
        { name := "Src",type:=3,offset:=3,embedded:=false,tag := "",pkgPath := "",byteOffset:=16 },
        { name := "Dst",type:=3,offset:=4,embedded:=false,tag := "",pkgPath := "",byteOffset:=24 },
        { name := "Fence",type:=3,offset:=5,embedded:=false,tag := "",pkgPath := "",byteOffset:=32 }][i]? = some f->i < 6 ->
      ∃ y,DataW.trod enc Try.prog W 0 sp held n f.type (([c0,c1,c2,c3,c4,c5].drop f.offset).take (Try.prog.cellsOf f.type)) = some y:=by
    intro i f hi hlt
    have:=hf i f hi
    rw [List.getElem?_eq_getElem (by omega)] at this
    exact ⟨_,this⟩
  have n3:Try.prog.cellsOf 3 = 1:=by kernel_rfl
  have n4:Try.prog.cellsOf 4 = 1:=by kernel_rfl
  obtain ⟨y0,g0⟩:=get 0 _ rfl (by omega)
  obtain ⟨y1,g1⟩:=get 1 _ rfl (by omega)
  obtain ⟨y2,g2⟩:=get 2 _ rfl (by omega)
  obtain ⟨y3,g3⟩:=get 3 _ rfl (by omega)
  obtain ⟨y4,g4⟩:=get 4 _ rfl (by omega)
  obtain ⟨y5,g5⟩:=get 5 _ rfl (by omega)
  have g0:DataW.trod enc Try.prog W 0 sp held n 3 (([c0,c1,c2,c3,c4,c5].drop 0).take (Try.prog.cellsOf 3)) = some y0:=g0
  rw [n3] at g0
  have g1:DataW.trod enc Try.prog W 0 sp held n 4 (([c0,c1,c2,c3,c4,c5].drop 1).take (Try.prog.cellsOf 4)) = some y1:=g1
  rw [n4] at g1
  have g2:DataW.trod enc Try.prog W 0 sp held n 4 (([c0,c1,c2,c3,c4,c5].drop 2).take (Try.prog.cellsOf 4)) = some y2:=g2
  rw [n4] at g2
  have g3:DataW.trod enc Try.prog W 0 sp held n 3 (([c0,c1,c2,c3,c4,c5].drop 3).take (Try.prog.cellsOf 3)) = some y3:=g3
  rw [n3] at g3
  have g4:DataW.trod enc Try.prog W 0 sp held n 3 (([c0,c1,c2,c3,c4,c5].drop 4).take (Try.prog.cellsOf 3)) = some y4:=g4
  rw [n3] at g4
  have g5:DataW.trod enc Try.prog W 0 sp held n 3 (([c0,c1,c2,c3,c4,c5].drop 5).take (Try.prog.cellsOf 3)) = some y5:=g5
  rw [n3] at g5
  obtain ⟨a0,e0,_⟩:=DataW.trod_int Try.underlying3 g0
  obtain ⟨a1,e1,_⟩:=DataW.trod_bool Try.underlying4 g1
  obtain ⟨a2,e2,_⟩:=DataW.trod_bool Try.underlying4 g2
  obtain ⟨a3,e3,_⟩:=DataW.trod_int Try.underlying3 g3
  obtain ⟨a4,e4,_⟩:=DataW.trod_int Try.underlying3 g4
  obtain ⟨a5,e5,_⟩:=DataW.trod_int Try.underlying3 g5
  have e0:c0 = .int .i64 a0:=one_cell e0 rfl
  have e1:c1 = .bool a1:=one_cell e1 rfl
  have e2:c2 = .bool a2:=one_cell e2 rfl
  have e3:c3 = .int .i64 a3:=one_cell e3 rfl
  have e4:c4 = .int .i64 a4:=one_cell e4 rfl
  have e5:c5 = .int .i64 a5:=one_cell e5 rfl
  exact ⟨⟨a0,a1,a2,a3,a4,a5⟩,by rw [e0,e1,e2,e3,e4,e5]; rfl⟩
theorem VR_edge (S:Nat->Prop) (w:World) (κ:Nat->Option Value) (e:E6):VR S w (eV e) κ (.agg (cellsE e).toArray) :=
  ⟨_,rfl,_,_,rfl,rfl,_,_,rfl,rfl,_,_,rfl,rfl,_,_,rfl,rfl,_,_,rfl,rfl,_,_,rfl,rfl,rfl⟩
def Reads (W:World) (v:Value) (u:V):Prop:=VR (Live W) W u noK v
theorem reads_int (hval:Value.okWide Try.prog W r b0 3 v) (h:DataW.Trod enc Try.prog W 0 sp held 3 v d ps):∃ n:Int,Reads W v (iV n):=by
  obtain ⟨n,rfl,_⟩:=ChangeShapes.open_int Try.underlying3 hval h
  exact ⟨n,rfl⟩
instance:Inhabited E6:=⟨zeroE⟩
theorem reads_edges (hval:Value.okWide Try.prog W r b0 22 v) (h:DataW.Trod enc Try.prog W 0 sp held 22 v d ps) :
    ∃ (n:Nat) (xs:Nat->E6),Reads W v (.sl 6 n fun i=>eV (xs i)) ∧ (n = 0 ∨ ∃ els rest,d = .slice els rest ∧ els.length = n) :=
  read_slice (f:=cellsE) (g:=eV) (s:=6) Try.underlying22 (by kernel_rfl) (by omega) (fun e u hu=>by simp [cellsE] at hu; rcases hu with rfl | rfl | rfl | rfl | rfl | rfl <;> rfl)
    (fun S w e=>⟨_,VR_edge S w noK e,rfl⟩) edge_cells hval h
end
noncomputable def laidWorld (os:Os):World:=World.holding Try.prog os ⟨#[],#[],[]⟩
end Go.Proofs.Ytjhnfomefcngfaa.Sh
