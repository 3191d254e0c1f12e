/-
  Layer 7: whether a shape is one of a cycle: the program's, the document's. No conditions.
-/
import Derived.Test.YtjhnfomefcngfaaShJ
namespace Go.Proofs.Ytjhnfomefcngfaa.Sh
open Go.Sy Ed
open Int (ofNat)
set_option maxHeartbeats 1000000
set_option maxRecDepth 4000
def ofS (a:Int) (n:Nat) (f:Nat->E6):Sh7:=⟨a,n,shG n f,n,evF n (shG n f) (fun _=>true),ofNat (ttN n (shG n f)),ofNat (kkN n (shG n f)),n,rfF n (shG n f) (fun _=>true),kkN n (shG n f),
  fun k=>(lnN (mbF (shG n f)) (wrF (shG n f)) n k,fun i=>ofNat (coN (mbF (shG n f)) (wrF (shG n f)) n k i))⟩
def checkS (s:Sh7):Bool:=band (ieq (chkE s.arch s.ne s.E) 0) (sameS s (ofS s.arch s.ne s.E))
def checkT:List V->T (V × List Blk)
  | [v]=>apS v fun s=>.br (fitN s.ne) (.br (smallS s) (.leaf (iV (sel (checkS s) 0 70),[])) .fail) .fail
  | _=>.fail
noncomputable def tb25:List (Nat × (List V->T (V × List Blk))):=[(14,ofT),(72,sameST)]
theorem tb25_ok:AllPure Try.prog Gl tb25:=.cons p14 <| .cons p72 .nil
section
variable (L:LT) (a:Int) (n:Nat) (g:Nat->E6) (m:Nat) (x:Nat->Ev5) (t k:Int) (p:Nat) (r:Nat->Int) (q:Nat) (ln:Nat->Nat) (co:Nat->Nat->Int)
include L a n g m x t k p r q ln co
theorem w25e (h16:fitN n = true) (h0:ieq (chkE a n g) 0 = false):(finF (evalF tab ⟨callT tb25,L,Gl⟩ Try.f25 [.agg [iV a,.sl 6 n (fun i=>eV (g i)),.sl 5 m (fun i=>evV (x i)),iV t,iV k,.sl 1 p (fun i=>iV (r i)),.sl 1 q (fun u=>.sl 1 (ln u) (fun i=>iV (co u i)))]] [])).sem = some ((iV 70),[]):=by
  exact sem_of_path (ds:=bbK 9 507) (cs:=((fun c0=>[(allN n (fun _=>true)),(fitN n),(ieq (chkE a n g) 0),c0,c0,c0,c0,c0,true]) (bnot (ieq (chkE a n g) 0)))) (by kernel_rfl) (by simp only [h16,h0,allN_true] <;> rfl)
theorem w25f (h17:fitN n = true) (h0:ieq (chkE a n g) 0 = true) (h18:jagsLive [(.cells [(iV a),(.sl 6 n (fun i=>(eV (g i)))),(.sl 5 m (fun i=>(.agg [(iV ((x i)).th),(iV ((x i)).pl),(iV ((x i)).dir),(iV ((x i)).loc),(iV ((x i)).val)]))),(iV t),(iV k),(.sl 1 p (fun i=>(iV (r i)))),(.sl 1 q (fun u=>(.sl 1 (ln u) (fun i=>(iV (co u i))))))]),(.row 44 6 n (fun i=>(eV (shG n g i)))),(.row 40 5 n (fun i=>(.agg [(iV ((evF n (shG n g) (fun _=>true) i)).th),(iV ((evF n (shG n g) (fun _=>true) i)).pl),(iV ((evF n (shG n g) (fun _=>true) i)).dir),(iV ((evF n (shG n g) (fun _=>true) i)).loc),(iV ((evF n (shG n g) (fun _=>true) i)).val)]))),(.row 3 1 n (fun i=>(iV (rfF n (shG n g) (fun _=>true) i)))),(.jag (Jag.mk 25 1 (kkN n (shG n g)) (fun _=>.und) 0 3 1 (fun _=>true) (lnN (mbF (shG n g)) (wrF (shG n g)) n) (fun k i=>(iV (ofNat (coN (mbF (shG n g)) (wrF (shG n g)) n k i)))))),(.cells [(iV a),(.ref 1),(.ref 2),(iV (ofNat (ttN n (shG n g)))),(iV (ofNat (kkN n (shG n g)))),(.ref 3),(.jref 4)])] = true) (h19:allN q (fun i=>(allN (ln i) (fun _=>true))) = true) (h20:allN (kkN n (shG n g)) (fun i=>(allN (lnN (mbF (shG n g)) (wrF (shG n g)) n i) (fun _=>true))) = true) (h21:smallN n = true) (h22:smallN m = true) (h23:smallN p = true) (h24:smallN q = true) (h25:allN q (fun i=>(smallN (ln i))) = true) (h1:band (ieq a a) (band (ieq t (ofNat (ttN n (shG n g)))) (band (ieq k (ofNat (kkN n (shG n g)))) (band (sameB n g n (fun i=>(shG n g i))) (band (ieq (ofNat m) (ofNat n)) (band (sameI p r n (rfF n (shG n g) (fun _=>true))) (band (sameJ q ln (fun i i_1=>(co i i_1)) (kkN n (shG n g)) (lnN (mbF (shG n g)) (wrF (shG n g)) n) (fun i i_1=>(ofNat (coN (mbF (shG n g)) (wrF (shG n g)) n i i_1)))) (allN m (fun k=>(sameX (x k) (evF n (shG n g) (fun _=>true) k)))))))))) = false):(finF (evalF tab ⟨callT tb25,L,Gl⟩ Try.f25 [.agg [iV a,.sl 6 n (fun i=>eV (g i)),.sl 5 m (fun i=>evV (x i)),iV t,iV k,.sl 1 p (fun i=>iV (r i)),.sl 1 q (fun u=>.sl 1 (ln u) (fun i=>iV (co u i)))]] [])).sem = some ((iV 70),[]):=by
  exact sem_of_path (ds:=bbK 19 327623) (cs:=((fun c0 c1=>[c0,(fitN n),(ieq (chkE a n g) 0),c1,c1,c1,(jagsLive [(.cells [(iV a),(.sl 6 n (fun i=>(eV (g i)))),(.sl 5 m (fun i=>(.agg [(iV ((x i)).th),(iV ((x i)).pl),(iV ((x i)).dir),(iV ((x i)).loc),(iV ((x i)).val)]))),(iV t),(iV k),(.sl 1 p (fun i=>(iV (r i)))),(.sl 1 q (fun u=>(.sl 1 (ln u) (fun i=>(iV (co u i))))))]),(.row 44 6 n (fun i=>(eV (shG n g i)))),(.row 40 5 n (fun i=>(.agg [(iV ((evF n (shG n g) (fun _=>true) i)).th),(iV ((evF n (shG n g) (fun _=>true) i)).pl),(iV ((evF n (shG n g) (fun _=>true) i)).dir),(iV ((evF n (shG n g) (fun _=>true) i)).loc),(iV ((evF n (shG n g) (fun _=>true) i)).val)]))),(.row 3 1 n (fun i=>(iV (rfF n (shG n g) (fun _=>true) i)))),(.jag (Jag.mk 25 1 (kkN n (shG n g)) (fun _=>.und) 0 3 1 (fun _=>true) (lnN (mbF (shG n g)) (wrF (shG n g)) n) (fun k i=>(iV (ofNat (coN (mbF (shG n g)) (wrF (shG n g)) n k i)))))),(.cells [(iV a),(.ref 1),(.ref 2),(iV (ofNat (ttN n (shG n g)))),(iV (ofNat (kkN n (shG n g)))),(.ref 3),(.jref 4)])]),c0,(allN m (fun _=>true)),(allN p (fun _=>true)),(allN q (fun i=>(allN (ln i) (fun _=>true)))),c0,c0,c0,(allN (kkN n (shG n g)) (fun i=>(allN (lnN (mbF (shG n g)) (wrF (shG n g)) n i) (fun _=>true)))),(band (smallN n) (band (smallN m) (band (smallN p) (band (smallN q) (allN q (fun i=>(smallN (ln i)))))))),c1,c1,(bnot (band (ieq a a) (band (ieq t (ofNat (ttN n (shG n g)))) (band (ieq k (ofNat (kkN n (shG n g)))) (band (sameB n g n (fun i=>(shG n g i))) (band (ieq (ofNat m) (ofNat n)) (band (sameI p r n (rfF n (shG n g) (fun _=>true))) (band (sameJ q ln (fun i i_1=>(co i i_1)) (kkN n (shG n g)) (lnN (mbF (shG n g)) (wrF (shG n g)) n) (fun i i_1=>(ofNat (coN (mbF (shG n g)) (wrF (shG n g)) n i i_1)))) (allN m (fun k=>(sameX (x k) (evF n (shG n g) (fun _=>true) k))))))))))))]) (allN n (fun _=>true)) (bnot (ieq 0 0)))) (by kernel_rfl) (by simp only [h1] <;> simp only [h17,h0,h18,h19,h20,h21,h22,h23,h24,h25,allN_true] <;> rfl)
theorem w25t (h17:fitN n = true) (h0:ieq (chkE a n g) 0 = true) (h18:jagsLive [(.cells [(iV a),(.sl 6 n (fun i=>(eV (g i)))),(.sl 5 m (fun i=>(.agg [(iV ((x i)).th),(iV ((x i)).pl),(iV ((x i)).dir),(iV ((x i)).loc),(iV ((x i)).val)]))),(iV t),(iV k),(.sl 1 p (fun i=>(iV (r i)))),(.sl 1 q (fun u=>(.sl 1 (ln u) (fun i=>(iV (co u i))))))]),(.row 44 6 n (fun i=>(eV (shG n g i)))),(.row 40 5 n (fun i=>(.agg [(iV ((evF n (shG n g) (fun _=>true) i)).th),(iV ((evF n (shG n g) (fun _=>true) i)).pl),(iV ((evF n (shG n g) (fun _=>true) i)).dir),(iV ((evF n (shG n g) (fun _=>true) i)).loc),(iV ((evF n (shG n g) (fun _=>true) i)).val)]))),(.row 3 1 n (fun i=>(iV (rfF n (shG n g) (fun _=>true) i)))),(.jag (Jag.mk 25 1 (kkN n (shG n g)) (fun _=>.und) 0 3 1 (fun _=>true) (lnN (mbF (shG n g)) (wrF (shG n g)) n) (fun k i=>(iV (ofNat (coN (mbF (shG n g)) (wrF (shG n g)) n k i)))))),(.cells [(iV a),(.ref 1),(.ref 2),(iV (ofNat (ttN n (shG n g)))),(iV (ofNat (kkN n (shG n g)))),(.ref 3),(.jref 4)])] = true) (h19:allN q (fun i=>(allN (ln i) (fun _=>true))) = true) (h20:allN (kkN n (shG n g)) (fun i=>(allN (lnN (mbF (shG n g)) (wrF (shG n g)) n i) (fun _=>true))) = true) (h21:smallN n = true) (h22:smallN m = true) (h23:smallN p = true) (h24:smallN q = true) (h25:allN q (fun i=>(smallN (ln i))) = true) (h1:band (ieq a a) (band (ieq t (ofNat (ttN n (shG n g)))) (band (ieq k (ofNat (kkN n (shG n g)))) (band (sameB n g n (fun i=>(shG n g i))) (band (ieq (ofNat m) (ofNat n)) (band (sameI p r n (rfF n (shG n g) (fun _=>true))) (band (sameJ q ln (fun i i_1=>(co i i_1)) (kkN n (shG n g)) (lnN (mbF (shG n g)) (wrF (shG n g)) n) (fun i i_1=>(ofNat (coN (mbF (shG n g)) (wrF (shG n g)) n i i_1)))) (allN m (fun k=>(sameX (x k) (evF n (shG n g) (fun _=>true) k)))))))))) = true):(finF (evalF tab ⟨callT tb25,L,Gl⟩ Try.f25 [.agg [iV a,.sl 6 n (fun i=>eV (g i)),.sl 5 m (fun i=>evV (x i)),iV t,iV k,.sl 1 p (fun i=>iV (r i)),.sl 1 q (fun u=>.sl 1 (ln u) (fun i=>iV (co u i)))]] [])).sem = some ((iV 0),[]):=by
  exact sem_of_path (ds:=bbK 19 65479) (cs:=((fun c0 c1=>[c0,(fitN n),(ieq (chkE a n g) 0),c1,c1,c1,(jagsLive [(.cells [(iV a),(.sl 6 n (fun i=>(eV (g i)))),(.sl 5 m (fun i=>(.agg [(iV ((x i)).th),(iV ((x i)).pl),(iV ((x i)).dir),(iV ((x i)).loc),(iV ((x i)).val)]))),(iV t),(iV k),(.sl 1 p (fun i=>(iV (r i)))),(.sl 1 q (fun u=>(.sl 1 (ln u) (fun i=>(iV (co u i))))))]),(.row 44 6 n (fun i=>(eV (shG n g i)))),(.row 40 5 n (fun i=>(.agg [(iV ((evF n (shG n g) (fun _=>true) i)).th),(iV ((evF n (shG n g) (fun _=>true) i)).pl),(iV ((evF n (shG n g) (fun _=>true) i)).dir),(iV ((evF n (shG n g) (fun _=>true) i)).loc),(iV ((evF n (shG n g) (fun _=>true) i)).val)]))),(.row 3 1 n (fun i=>(iV (rfF n (shG n g) (fun _=>true) i)))),(.jag (Jag.mk 25 1 (kkN n (shG n g)) (fun _=>.und) 0 3 1 (fun _=>true) (lnN (mbF (shG n g)) (wrF (shG n g)) n) (fun k i=>(iV (ofNat (coN (mbF (shG n g)) (wrF (shG n g)) n k i)))))),(.cells [(iV a),(.ref 1),(.ref 2),(iV (ofNat (ttN n (shG n g)))),(iV (ofNat (kkN n (shG n g)))),(.ref 3),(.jref 4)])]),c0,(allN m (fun _=>true)),(allN p (fun _=>true)),(allN q (fun i=>(allN (ln i) (fun _=>true)))),c0,c0,c0,(allN (kkN n (shG n g)) (fun i=>(allN (lnN (mbF (shG n g)) (wrF (shG n g)) n i) (fun _=>true)))),(band (smallN n) (band (smallN m) (band (smallN p) (band (smallN q) (allN q (fun i=>(smallN (ln i)))))))),c1,c1,(bnot (band (ieq a a) (band (ieq t (ofNat (ttN n (shG n g)))) (band (ieq k (ofNat (kkN n (shG n g)))) (band (sameB n g n (fun i=>(shG n g i))) (band (ieq (ofNat m) (ofNat n)) (band (sameI p r n (rfF n (shG n g) (fun _=>true))) (band (sameJ q ln (fun i i_1=>(co i i_1)) (kkN n (shG n g)) (lnN (mbF (shG n g)) (wrF (shG n g)) n) (fun i i_1=>(ofNat (coN (mbF (shG n g)) (wrF (shG n g)) n i i_1)))) (allN m (fun k=>(sameX (x k) (evF n (shG n g) (fun _=>true) k))))))))))))]) (allN n (fun _=>true)) (bnot (ieq 0 0)))) (by kernel_rfl) (by simp only [h1] <;> simp only [h17,h0,h18,h19,h20,h21,h22,h23,h24,h25,allN_true] <;> rfl)
end
theorem p25:PureC Try.prog Gl 25 checkT:=by
  refine pureC_intro tabOK mixed Try.func25 (by kernel_rfl) (by kernel_rfl) fun vs v h' h=>?_
  unfold checkT at h
  split at h
  · rename_i v1
    obtain ⟨s,a1,h⟩:=apS_some h
    obtain ⟨hf,h⟩:=sem_br_fail h
    obtain ⟨hn,h⟩:=sem_br_fail h
    have:=sem_leaf h
    simp only [Prod.mk.injEq] at this
    obtain ⟨rfl,rfl⟩:=this
    obtain ⟨a,n,g,m,x,t,k,p,r,q,C⟩:=s
    have hA:ArgLE [v1] [.agg [iV a,.sl 6 n (fun i=>eV (g i)),.sl 5 m (fun i=>evV (x i)),iV t,iV k,.sl 1 p (fun i=>iV (r i)),.sl 1 q (fun u=>.sl 1 (C u).1 (fun i=>iV ((C u).2 i)))]]:=fun S w cs hv=>by
      obtain ⟨c,l,rfl,q1,q2⟩:=hv
      exact ⟨c,_,rfl,a1 S w c q1,q2⟩
    have hn:smallN n = true ∧ smallN m = true ∧ smallN p = true ∧ smallN q = true ∧ (allN q fun i=>smallN (C i).1) = true:=by simpa [smallS,band] using hn
    obtain ⟨n1,n2,n3,n4,n5⟩:=hn
    have hx:=cx_ok tb25_ok [] (G:=Gl)
    refine ⟨_,cxOf Gl tb25 [],_,hA,rfl,hx.1,hx.2,?_,RowsLE.refl _⟩
    have all2:∀ (q:Nat) (ln:Nat->Nat),(allN q fun i=>allN (ln i) fun _=>true) = true:=fun _ _=>allN_iff.2 fun _ _=>allN_iff.2 fun _ _=>rfl
    show _ = some (iV (sel (checkS ⟨a,n,g,m,x,t,k,p,r,q,C⟩) 0 70),_)
    revert n5
    generalize hln:(fun i=>(C i).1) = ln
    generalize hco:(fun i=>(C i).2) = co
    have e1:∀ u,(C u).1 = ln u:=fun u=>by rw [<- hln]
    have e2:∀ u,(C u).2 = co u:=fun u=>by rw [<- hco]
    have hC:C = fun u=>(ln u,co u):=by
      funext u
      rw [<- e1,<- e2]
    intro n5
    simp only [e1,e2] at n5 ⊢
    subst hC
    cases hc:ieq (chkE a n g) 0 with
    | false =>
      rw [show checkS _ = false from band_f hc]
      exact w25e _ a n g m x t k p r q ln co hf hc
    | true =>
      rw [show checkS _ = _ from band_t hc]
      cases hs:sameS ⟨a,n,g,m,x,t,k,p,r,q,fun u=>(ln u,co u)⟩ (ofS a n g) with
      | false=>exact w25f _ a n g m x t k p r q ln co hf hc (by simp [jagsLive]) (all2 _ _) (all2 _ _) n1 n2 n3 n4 n5 hs
      | true=>exact w25t _ a n g m x t k p r q ln co hf hc (by simp [jagsLive]) (all2 _ _) (all2 _ _) n1 n2 n3 n4 n5 hs
  · cases h
end Go.Proofs.Ytjhnfomefcngfaa.Sh
namespace Go.Proofs.Ytjhnfomefcngfaa.Sh
open Go.Sy Ed
set_option maxHeartbeats 1000000
set_option maxRecDepth 4000
def checkE (a:Int) (n:Nat) (g:Nat->E6) (m:Nat) (x:Nat->Ev5) (t k:Int) (p:Nat) (r:Nat->Int) (q:Nat) (ln:Nat->Nat) (co:Nat->Nat->Int):Int:=sel (checkS ⟨a,n,g,m,x,t,k,p,r,q,fun u=>(ln u,co u)⟩) 0 70
def checkT':List V->T (V × List Blk)
  | [v]=>apS v fun s=>.br (fitN s.ne) (.br (smallS s) (.leaf (iV (checkE s.arch s.ne s.E s.nx s.X s.tt s.kk s.nr s.R s.nc (fun i=>(s.C i).1) (fun i=>(s.C i).2)),[])) .fail) .fail
  | _=>.fail
theorem p25':PureC Try.prog Gl 25 checkT':=p25
end Go.Proofs.Ytjhnfomefcngfaa.Sh
namespace Go.Proofs.Ytjhnfomefcngfaa.Sh
open Go.Sy Ed
set_option maxHeartbeats 1000000
set_option maxRecDepth 4000
theorem shG_shG {a:Int} {n:Nat} {f:Nat->E6} (h:IsCycle a n f):shG n (shG n f) = shG n f:=by
  have hlo:=h.lo
  have hl:=leastN_ok n (fun i=>codeN (f i))
  have key:∀ i,i < n->canF n (shG n f) i = canF n f i:=fun i hi=>by
    have h1:=cyc_canon h
    rw [canF_congr (f:=fun i=>canF n f ((shQ n f+i) % n)) (h1.turned (shQ_ok h).2.2.2).may (fun i hi=>shG_out hi) hi]
    rw [canF_turned (f:=fun i=>canF n f i) (by omega) (shQ_ok h).2.2.2 h1.may hi]
    exact canF_can (by omega) h.may hi
  have hq:shQ n (shG n f) = shQ n f:=by
    unfold shQ
    rw [lstN_congr (p:=fun i=>outB (canF n (shG n f) i)) (q:=fun i=>outB (canF n f i)) fun i hi=>by rw [key i hi]]
  funext i
  by_cases hi:i < n
  · rw [shG_out hi,shG_out hi,hq]
    exact key _ (Nat.mod_lt _ (by omega))
  · unfold shG cutE
    rw [decide_eq_false hi]
    rfl
theorem sameS_rfl (s:Sh7):sameS s s = true:=by
  unfold sameS
  rw [band_t (ieq_self _),band_t (ieq_self _),band_t (ieq_self _),band_t (sameB_rfl _ _),band_t (ieq_self _),band_t (sameI_rfl _ _),band_t (sameJ_rfl _ _ _)]
  exact allN_iff.2 fun _ _=>sameX_rfl _
theorem check_of {a:Int} {n:Nat} {f:Nat->E6} (h:IsCycle a n f):checkS (ofS a n f) = true:=by
  unfold checkS
  rw [band_t (show ieq (chkE (ofS a n f).arch (ofS a n f).ne (ofS a n f).E) 0 = true from (shG_cycle h).chk.1)]
  show sameS (ofS a n f) (ofS a n (shG n f)) = true
  rw [show ofS a n (shG n f) = ofS a n f by unfold ofS; rw [shG_shG h]]
  exact sameS_rfl _
theorem ieq_of {a b:Int} (h:a = b):ieq a b = true:=by rw [h]; exact ieq_rfl _
theorem all2 {q:Nat} {ln:Nat->Nat}:∀ (_ _:Unit),(allN q fun i=>allN (ln i) fun _=>true) = true:=fun _ _=>allN_iff.2 fun _ _=>allN_iff.2 fun _ _=>rfl
end Go.Proofs.Ytjhnfomefcngfaa.Sh
namespace Go.Proofs.Ytjhnfomefcngfaa.Sh
open Go.Sy Ed
set_option maxHeartbeats 1000000
set_option maxRecDepth 4000
end Go.Proofs.Ytjhnfomefcngfaa.Sh
