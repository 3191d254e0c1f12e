/-
  Layer 7: whether a shape is one of a cycle: the program's, the document's. No conditions.
-/
import Derived.Test.YtjhnfomefcngfaaShJ
namespace Go.Proofs.Ytjhnfomefcngfaa.Sh
open Go.Sy Ed
open Int (ofNat)
set_option maxHeartbeats 1000000
set_option maxRecDepth 4000
def ofS (a:Int) (n:Nat) (f:Nat->E6):Sh7:=⟨a,n,shG n f,n,evF n (shG n f) (fun _=>true),ofNat (ttN n (shG n f)),ofNat (kkN n (shG n f)),n,rfF n (shG n f) (fun _=>true),kkN n (shG n f),
  fun k=>(lnN (mbF (shG n f)) (wrF (shG n f)) n k,fun i=>ofNat (coN (mbF (shG n f)) (wrF (shG n f)) n k i))⟩
def checkS (s:Sh7):Bool:=band (ieq (chkE s.arch s.ne s.E) 0) (sameS s (ofS s.arch s.ne s.E))
def checkT:List V->T (V × List Blk)
  | [v]=>apS v fun s=>.br (fitN s.ne) (.br (smallS s) (.leaf (iV (sel (checkS s) 0 70),[])) .fail) .fail
  | _=>.fail
noncomputable def tb25:List (Nat × (List V->T (V × List Blk))):=[(14,ofT),(72,sameST)]
theorem tb25_ok:AllPure Try.prog Gl tb25:=.cons p14 <| .cons p72 .nil
section
variable (L:LT) (a:Int) (n:Nat) (g:Nat->E6) (m:Nat) (x:Nat->Ev5) (t k:Int) (p:Nat) (r:Nat->Int) (q:Nat) (ln:Nat->Nat) (co:Nat->Nat->Int)
include L a n g m x t k p r q ln co
theorem w25e (h16:fitN n = true) (h0:ieq (chkE a n g) 0 = false):(finF (evalF tab ⟨callT tb25,L,Gl⟩ Try.f25 [.agg [iV a,.sl 6 n (fun i=>eV (g i)),.sl 5 m (fun i=>evV (x i)),iV t,iV k,.sl 1 p (fun i=>iV (r i)),.sl 1 q (fun u=>.sl 1 (ln u) (fun i=>iV (co u i)))]] [])).sem = some ((iV 70),[]):=by
  exact sem_of_path (ds:=bbK 9 507) (cs:=((fun c0=>[(allN n (fun _=>true)),(fitN n),(ieq (chkE a n g) 0),c0,c0,c0,c0,c0,true]) (bnot (ieq (chkE a n g) 0)))) (by kernel_rfl) (by simp only [h16,h0,allN_true] <;> rfl)
theorem w25f (h17:fitN n = true) (h0:ieq (chkE a n g) 0 = true) (h18:jagsLive [(.cells [(iV a),(.sl 6 n (fun i=>(eV (g i)))),(.sl 5 m (fun i=>(.agg [(iV ((x i)).th),(iV ((x i)).pl),(iV ((x i)).dir),(iV ((x i)).loc),(iV ((x i)).val)]))),(iV t),(iV k),(.sl 1 p (fun i=>(iV (r i)))),(.sl 1 q (fun u=>(.sl 1 (ln u) (fun i=>(iV (co u i))))))]),(.row 44 6 n (fun i=>(eV (shG n g i)))),(.row 40 5 n (fun i=>(.agg [(iV ((evF n (shG n g) (fun _=>true) i)).th),(iV ((evF n (shG n g) (fun _=>true) i)).pl),(iV ((evF n (shG n g) (fun _=>true) i)).dir),(iV ((evF n (shG n g) (fun _=>true) i)).loc),(iV ((evF n (shG n g) (fun _=>true) i)).val)]))),(.row 3 1 n (fun i=>(iV (rfF n (shG n g) (fun _=>true) i)))),(.jag (Jag.mk 25 1 (kkN n (shG n g)) (fun _=>.und) 0 3 1 (fun _=>true) (lnN (mbF (shG n g)) (wrF (shG n g)) n) (fun k i=>(iV (ofNat (coN (mbF (shG n g)) (wrF (shG n g)) n k i)))))),(.cells [(iV a),(.ref 1),(.ref 2),(iV (ofNat (ttN n (shG n g)))),(iV (ofNat (kkN n (shG n g)))),(.ref 3),(.jref 4)])] = true) (h19:allN q (fun i=>(allN (ln i) (fun _=>true))) = true) (h20:allN (kkN n (shG n g)) (fun i=>(allN (lnN (mbF (shG n g)) (wrF (shG n g)) n i) (fun _=>true))) = true) (h21:smallN n = true) (h22:smallN m = true) (h23:smallN p = true) (h24:smallN q = true) (h25:allN q (fun i=>(smallN (ln i))) = true) (h1:band (ieq a a) (band (ieq t (ofNat (ttN n (shG n g)))) (band (ieq k (ofNat (kkN n (shG n g)))) (band (sameB n g n (fun i=>(shG n g i))) (band (ieq (ofNat m) (ofNat n)) (band (sameI p r n (rfF n (shG n g) (fun _=>true))) (band (sameJ q ln (fun i i_1=>(co i i_1)) (kkN n (shG n g)) (lnN (mbF (shG n g)) (wrF (shG n g)) n) (fun i i_1=>(ofNat (coN (mbF (shG n g)) (wrF (shG n g)) n i i_1)))) (allN m (fun k=>(sameX (x k) (evF n (shG n g) (fun _=>true) k)))))))))) = false):(finF (evalF tab ⟨callT tb25,L,Gl⟩ Try.f25 [.agg [iV a,.sl 6 n (fun i=>eV (g i)),.sl 5 m (fun i=>evV (x i)),iV t,iV k,.sl 1 p (fun i=>iV (r i)),.sl 1 q (fun u=>.sl 1 (ln u) (fun i=>iV (co u i)))]] [])).sem = some ((iV 70),[]):=by
  exact sem_of_path (ds:=bbK 19 327623) (cs:=((fun c0 c1=>[c0,(fitN n),(ieq (chkE a n g) 0),c1,c1,c1,(jagsLive [(.cells [(iV a),(.sl 6 n (fun i=>(eV (g i)))),(.sl 5 m (fun i=>(.agg [(iV ((x i)).th),(iV ((x i)).pl),(iV ((x i)).dir),(iV ((x i)).loc),(iV ((x i)).val)]))),(iV t),(iV k),(.sl 1 p (fun i=>(iV (r i)))),(.sl 1 q (fun u=>(.sl 1 (ln u) (fun i=>(iV (co u i))))))]),(.row 44 6 n (fun i=>(eV (shG n g i)))),(.row 40 5 n (fun i=>(.agg [(iV ((evF n (shG n g) (fun _=>true) i)).th),(iV ((evF n (shG n g) (fun _=>true) i)).pl),(iV ((evF n (shG n g) (fun _=>true) i)).dir),(iV ((evF n (shG n g) (fun _=>true) i)).loc),(iV ((evF n (shG n g) (fun _=>true) i)).val)]))),(.row 3 1 n (fun i=>(iV (rfF n (shG n g) (fun _=>true) i)))),(.jag (Jag.mk 25 1 (kkN n (shG n g)) (fun _=>.und) 0 3 1 (fun _=>true) (lnN (mbF (shG n g)) (wrF (shG n g)) n) (fun k i=>(iV (ofNat (coN (mbF (shG n g)) (wrF (shG n g)) n k i)))))),(.cells [(iV a),(.ref 1),(.ref 2),(iV (ofNat (ttN n (shG n g)))),(iV (ofNat (kkN n (shG n g)))),(.ref 3),(.jref 4)])]),c0,(allN m (fun _=>true)),(allN p (fun _=>true)),(allN q (fun i=>(allN (ln i) (fun _=>true)))),c0,c0,c0,(allN (kkN n (shG n g)) (fun i=>(allN (lnN (mbF (shG n g)) (wrF (shG n g)) n i) (fun _=>true)))),(band (smallN n) (band (smallN m) (band (smallN p) (band (smallN q) (allN q (fun i=>(smallN (ln i)))))))),c1,c1,(bnot (band (ieq a a) (band (ieq t (ofNat (ttN n (shG n g)))) (band (ieq k (ofNat (kkN n (shG n g)))) (band (sameB n g n (fun i=>(shG n g i))) (band (ieq (ofNat m) (ofNat n)) (band (sameI p r n (rfF n (shG n g) (fun _=>true))) (band (sameJ q ln (fun i i_1=>(co i i_1)) (kkN n (shG n g)) (lnN (mbF (shG n g)) (wrF (shG n g)) n) (fun i i_1=>(ofNat (coN (mbF (shG n g)) (wrF (shG n g)) n i i_1)))) (allN m (fun k=>(sameX (x k) (evF n (shG n g) (fun _=>true) k))))))))))))]) (allN n (fun _=>true)) (bnot (ieq 0 0)))) (by kernel_rfl) (by simp only [h1] <;> simp only [h17,h0,h18,h19,h20,h21,h22,h23,h24,h25,allN_true] <;> rfl)
theorem w25t (h17:fitN n = true) (h0:ieq (chkE a n g) 0 = true) (h18:jagsLive [(.cells [(iV a),(.sl 6 n (fun i=>(eV (g i)))),(.sl 5 m (fun i=>(.agg [(iV ((x i)).th),(iV ((x i)).pl),(iV ((x i)).dir),(iV ((x i)).loc),(iV ((x i)).val)]))),(iV t),(iV k),(.sl 1 p (fun i=>(iV (r i)))),(.sl 1 q (fun u=>(.sl 1 (ln u) (fun i=>(iV (co u i))))))]),(.row 44 6 n (fun i=>(eV (shG n g i)))),(.row 40 5 n (fun i=>(.agg [(iV ((evF n (shG n g) (fun _=>true) i)).th),(iV ((evF n (shG n g) (fun _=>true) i)).pl),(iV ((evF n (shG n g) (fun _=>true) i)).dir),(iV ((evF n (shG n g) (fun _=>true) i)).loc),(iV ((evF n (shG n g) (fun _=>true) i)).val)]))),(.row 3 1 n (fun i=>(iV (rfF n (shG n g) (fun _=>true) i)))),(.jag (Jag.mk 25 1 (kkN n (shG n g)) (fun _=>.und) 0 3 1 (fun _=>true) (lnN (mbF (shG n g)) (wrF (shG n g)) n) (fun k i=>(iV (ofNat (coN (mbF (shG n g)) (wrF (shG n g)) n k i)))))),(.cells [(iV a),(.ref 1),(.ref 2),(iV (ofNat (ttN n (shG n g)))),(iV (ofNat (kkN n (shG n g)))),(.ref 3),(.jref 4)])] = true) (h19:allN q (fun i=>(allN (ln i) (fun _=>true))) = true) (h20:allN (kkN n (shG n g)) (fun i=>(allN (lnN (mbF (shG n g)) (wrF (shG n g)) n i) (fun _=>true))) = true) (h21:smallN n = true) (h22:smallN m = true) (h23:smallN p = true) (h24:smallN q = true) (h25:allN q (fun i=>(smallN (ln i))) = true) (h1:band (ieq a a) (band (ieq t (ofNat (ttN n (shG n g)))) (band (ieq k (ofNat (kkN n (shG n g)))) (band (sameB n g n (fun i=>(shG n g i))) (band (ieq (ofNat m) (ofNat n)) (band (sameI p r n (rfF n (shG n g) (fun _=>true))) (band (sameJ q ln (fun i i_1=>(co i i_1)) (kkN n (shG n g)) (lnN (mbF (shG n g)) (wrF (shG n g)) n) (fun i i_1=>(ofNat (coN (mbF (shG n g)) (wrF (shG n g)) n i i_1)))) (allN m (fun k=>(sameX (x k) (evF n (shG n g) (fun _=>true) k)))))))))) = true):(finF (evalF tab ⟨callT tb25,L,Gl⟩ Try.f25 [.agg [iV a,.sl 6 n (fun i=>eV (g i)),.sl 5 m (fun i=>evV (x i)),iV t,iV k,.sl 1 p (fun i=>iV (r i)),.sl 1 q (fun u=>.sl 1 (ln u) (fun i=>iV (co u i)))]] [])).sem = some ((iV 0),[]):=by
  exact sem_of_path (ds:=bbK 19 65479) (cs:=((fun c0 c1=>[c0,(fitN n),(ieq (chkE a n g) 0),c1,c1,c1,(jagsLive [(.cells [(iV a),(.sl 6 n (fun i=>(eV (g i)))),(.sl 5 m (fun i=>(.agg [(iV ((x i)).th),(iV ((x i)).pl),(iV ((x i)).dir),(iV ((x i)).loc),(iV ((x i)).val)]))),(iV t),(iV k),(.sl 1 p (fun i=>(iV (r i)))),(.sl 1 q (fun u=>(.sl 1 (ln u) (fun i=>(iV (co u i))))))]),(.row 44 6 n (fun i=>(eV (shG n g i)))),(.row 40 5 n (fun i=>(.agg [(iV ((evF n (shG n g) (fun _=>true) i)).th),(iV ((evF n (shG n g) (fun _=>true) i)).pl),(iV ((evF n (shG n g) (fun _=>true) i)).dir),(iV ((evF n (shG n g) (fun _=>true) i)).loc),(iV ((evF n (shG n g) (fun _=>true) i)).val)]))),(.row 3 1 n (fun i=>(iV (rfF n (shG n g) (fun _=>true) i)))),(.jag (Jag.mk 25 1 (kkN n (shG n g)) (fun _=>.und) 0 3 1 (fun _=>true) (lnN (mbF (shG n g)) (wrF (shG n g)) n) (fun k i=>(iV (ofNat (coN (mbF (shG n g)) (wrF (shG n g)) n k i)))))),(.cells [(iV a),(.ref 1),(.ref 2),(iV (ofNat (ttN n (shG n g)))),(iV (ofNat (kkN n (shG n g)))),(.ref 3),(.jref 4)])]),c0,(allN m (fun _=>true)),(allN p (fun _=>true)),(allN q (fun i=>(allN (ln i) (fun _=>true)))),c0,c0,c0,(allN (kkN n (shG n g)) (fun i=>(allN (lnN (mbF (shG n g)) (wrF (shG n g)) n i) (fun _=>true)))),(band (smallN n) (band (smallN m) (band (smallN p) (band (smallN q) (allN q (fun i=>(smallN (ln i)))))))),c1,c1,(bnot (band (ieq a a) (band (ieq t (ofNat (ttN n (shG n g)))) (band (ieq k (ofNat (kkN n (shG n g)))) (band (sameB n g n (fun i=>(shG n g i))) (band (ieq (ofNat m) (ofNat n)) (band (sameI p r n (rfF n (shG n g) (fun _=>true))) (band (sameJ q ln (fun i i_1=>(co i i_1)) (kkN n (shG n g)) (lnN (mbF (shG n g)) (wrF (shG n g)) n) (fun i i_1=>(ofNat (coN (mbF (shG n g)) (wrF (shG n g)) n i i_1)))) (allN m (fun k=>(sameX (x k) (evF n (shG n g) (fun _=>true) k))))))))))))]) (allN n (fun _=>true)) (bnot (ieq 0 0)))) (by kernel_rfl) (by simp only [h1] <;> simp only [h17,h0,h18,h19,h20,h21,h22,h23,h24,h25,allN_true] <;> rfl)
end
theorem p25:PureC Try.prog Gl 25 checkT:=by
  refine pureC_intro tabOK mixed Try.func25 (by kernel_rfl) (by kernel_rfl) fun vs v h' h=>?_
  unfold checkT at h
  split at h
  · rename_i v1
    obtain ⟨s,a1,h⟩:=apS_some h
    obtain ⟨hf,h⟩:=sem_br_fail h
    obtain ⟨hn,h⟩:=sem_br_fail h
    have:=sem_leaf h
    simp only [Prod.mk.injEq] at this
    obtain ⟨rfl,rfl⟩:=this
    obtain ⟨a,n,g,m,x,t,k,p,r,q,C⟩:=s
    have hA:ArgLE [v1] [.agg [iV a,.sl 6 n (fun i=>eV (g i)),.sl 5 m (fun i=>evV (x i)),iV t,iV k,.sl 1 p (fun i=>iV (r i)),.sl 1 q (fun u=>.sl 1 (C u).1 (fun i=>iV ((C u).2 i)))]]:=fun S w cs hv=>by
      obtain ⟨c,l,rfl,q1,q2⟩:=hv
      exact ⟨c,_,rfl,a1 S w c q1,q2⟩
    have hn:smallN n = true ∧ smallN m = true ∧ smallN p = true ∧ smallN q = true ∧ (allN q fun i=>smallN (C i).1) = true:=by simpa [smallS,band] using hn
    obtain ⟨n1,n2,n3,n4,n5⟩:=hn
    have hx:=cx_ok tb25_ok [] (G:=Gl)
    refine ⟨_,cxOf Gl tb25 [],_,hA,rfl,hx.1,hx.2,?_,RowsLE.refl _⟩
    have all2:∀ (q:Nat) (ln:Nat->Nat),(allN q fun i=>allN (ln i) fun _=>true) = true:=fun _ _=>allN_iff.2 fun _ _=>allN_iff.2 fun _ _=>rfl
    show _ = some (iV (sel (checkS ⟨a,n,g,m,x,t,k,p,r,q,C⟩) 0 70),_)
    revert n5
    generalize hln:(fun i=>(C i).1) = ln
    generalize hco:(fun i=>(C i).2) = co
    have e1:∀ u,(C u).1 = ln u:=fun u=>by rw [<- hln]
    have e2:∀ u,(C u).2 = co u:=fun u=>by rw [<- hco]
    have hC:C = fun u=>(ln u,co u):=by
      funext u
      rw [<- e1,<- e2]
    intro n5
    simp only [e1,e2] at n5 ⊢
    subst hC
    cases hc:ieq (chkE a n g) 0 with
    | false =>
      rw [show checkS _ = false from band_f hc]
      exact w25e _ a n g m x t k p r q ln co hf hc
    | true =>
      rw [show checkS _ = _ from band_t hc]
      cases hs:sameS ⟨a,n,g,m,x,t,k,p,r,q,fun u=>(ln u,co u)⟩ (ofS a n g) with
      | false=>exact w25f _ a n g m x t k p r q ln co hf hc (by simp [jagsLive]) (all2 _ _) (all2 _ _) n1 n2 n3 n4 n5 hs
      | true=>exact w25t _ a n g m x t k p r q ln co hf hc (by simp [jagsLive]) (all2 _ _) (all2 _ _) n1 n2 n3 n4 n5 hs
  · cases h
end Go.Proofs.Ytjhnfomefcngfaa.Sh
namespace Go.Proofs.Ytjhnfomefcngfaa.Sh
open Go.Sy Ed
open Int (ofNat)
set_option maxHeartbeats 1000000
set_option maxRecDepth 4000
def pushP (P:Nat->Bool) (v:Nat->Int):Nat->Nat->V
  | 0=>fun _=>.und
  | b+1=>bif P b then pushGet (cntB P b) (pushP P v b) (iV (v b)) else pushP P v b
theorem pushP_t {P:Nat->Bool} {v:Nat->Int} {b:Nat} (h:P b = true):pushP P v (b+1) = pushGet (cntB P b) (pushP P v b) (iV (v b)):=by rw [pushP,h]; rfl
theorem pushP_f {P:Nat->Bool} {v:Nat->Int} {b:Nat} (h:P b = false):pushP P v (b+1) = pushP P v b:=by rw [pushP,h]; rfl
def selN (P:Nat->Bool) (n m:Nat):Nat:=lstN (fun i=>P i && decide (cntB P i = m)) n
theorem selN_at {P:Nat->Bool} {n i:Nat} (hi:i < n) (h:P i = true):selN P n (cntB P i) = i:=lstN_at hi (by simp [h]) fun k hk=>by
  cases hp:P k with
  | false=>rfl
  | true =>
    have h1:=cntB_t hp
    have h2:=cntB_mono P (show k+1 <= i by omega)
    simp
    omega
theorem selN_spec {P:Nat->Bool}:∀ {n m:Nat},m < cntB P n->selN P n m < n ∧ P (selN P n m) = true ∧ cntB P (selN P n m) = m
  | 0,m,h=>by simp [cntB] at h
  | n+1,m,h=>by
    have:∃ i,i < n+1 ∧ P i = true ∧ cntB P i = m:=by
      cases hp:P n with
      | true =>
        rw [cntB_t hp] at h
        by_cases hm:m = cntB P n
        · exact ⟨n,by omega,hp,hm.symm⟩
        · obtain ⟨a,b,c⟩:=selN_spec (P:=P) (n:=n) (m:=m) (by omega)
          exact ⟨_,by omega,b,c⟩
      | false =>
        rw [cntB_f hp] at h
        obtain ⟨a,b,c⟩:=selN_spec (n:=n) (m:=m) h
        exact ⟨_,by omega,b,c⟩
    obtain ⟨i,h1,h2,h3⟩:=this
    rw [<- h3,selN_at h1 h2]
    exact ⟨h1,h2,rfl⟩
theorem pushP_eq (P:Nat->Bool) (v:Nat->Int) {n:Nat}:∀ m,m < cntB P n->pushP P v n m = iV (v (selN P n m)):=by
  have key:∀ b,b <= n->∀ i,i < b->P i = true->pushP P v b (cntB P i) = iV (v i):=fun b=>by
    induction b with
    | zero=>intro _ i hi; omega
    | succ b ih =>
      intro hb i hi hp
      cases hpb:P b with
      | true =>
        rw [pushP_t hpb,pushGet_eq]
        by_cases he:i = b
        · rw [he,Nat.beq_refl]; rfl
        · have h1:=cntB_t hp
          have h2:=cntB_mono P (show i+1 <= b by omega)
          rw [nbeq_ne (by omega)]
          exact ih (by omega) i (by omega) hp
      | false =>
        have he:i ≠ b:=fun he=>by rw [he,hpb] at hp; cases hp
        rw [pushP_f hpb]
        exact ih (by omega) i (by omega) hp
  intro m hm
  obtain ⟨h1,h2,h3⟩:=selN_spec hm
  have:=key n (Nat.le_refl _) _ h1 h2
  rw [h3] at this
  exact this
def checkE (a:Int) (n:Nat) (g:Nat->E6) (m:Nat) (x:Nat->Ev5) (t k:Int) (p:Nat) (r:Nat->Int) (q:Nat) (ln:Nat->Nat) (co:Nat->Nat->Int):Int:=sel (checkS ⟨a,n,g,m,x,t,k,p,r,q,fun u=>(ln u,co u)⟩) 0 70
def checkT':List V->T (V × List Blk)
  | [v]=>apS v fun s=>.br (fitN s.ne) (.br (smallS s) (.leaf (iV (checkE s.arch s.ne s.E s.nx s.X s.tt s.kk s.nr s.R s.nc (fun i=>(s.C i).1) (fun i=>(s.C i).2)),[])) .fail) .fail
  | _=>.fail
theorem p25':PureC Try.prog Gl 25 checkT':=p25
def noI (e:Int):V × List Blk:=(.tup [.ref 0,iV e],[.row 3 1 0 fun _=>.und])
def threadT:List V->T (V × List Blk)
  | [v,.val (.int .i64 z)]=>apS v fun s=>.br (fitN s.ne) (.br (fit8 s.nx) (.br (smallS s) (.br (checkS s) (.br (bor (ilt z 0) (ile s.tt z)) (.leaf (noI 4))
      (.leaf (.tup [.ref 0,iV 0],[.row 3 1 (cntB (fun i=>ieq (s.X i).th z) s.nx) fun k=>iV (ofNat (selN (fun i=>ieq (s.X i).th z) s.nx k))]))) (.leaf (noI 70))) .fail) .fail) .fail
  | _=>.fail
noncomputable def tb26:List (Nat × (List V->T (V × List Blk))):=[(25,checkT')]
theorem tb26_ok:AllPure Try.prog Gl tb26:=.cons p25' .nil
def lp26 (a:Int) (n:Nat) (g:Nat->E6) (m:Nat) (x:Nat->Ev5) (t k:Int) (p:Nat) (r:Nat->Int) (q:Nat) (ln:Nat->Nat) (co:Nat->Nat->Int) (z:Int):Lp:=⟨(bmK 41 0 [1,7,24,25,26]),3,(bmK 41 0 [7]),3,m+1⟩
def st26 (a:Int) (n:Nat) (g:Nat->E6) (m:Nat) (x:Nat->Ev5) (t k:Int) (p:Nat) (r:Nat->Int) (q:Nat) (ln:Nat->Nat) (co:Nat->Nat->Int) (z:Int) (b c:Nat) (y:Nat->V) (j:Nat->V):St:=⟨(jsV 41 0 j [(1,iV z),(7,.ref 2),(24,.sl 5 m (fun i=>evV (x i))),(25,nV m),(26,nV b)]),[(.cells [iV a,.sl 6 n (fun i=>eV (g i)),.sl 5 m (fun i=>evV (x i)),iV t,iV k,.sl 1 p (fun i=>iV (r i)),.sl 1 q (fun u=>.sl 1 (ln u) (fun i=>iV (co u i)))]),(.row 3 1 0 (fun _=>.und)),(.row 3 1 c y)]⟩
def en26e (a:Int) (n:Nat) (g:Nat->E6) (m:Nat) (x:Nat->Ev5) (t k:Int) (p:Nat) (r:Nat->Int) (q:Nat) (ln:Nat->Nat) (co:Nat->Nat->Int) (z:Int) (b c:Nat) (y:Nat->V):Ex × St:=(.ex 0,⟨(jsV 41 0 (fun _=>.und) [(7,.ref 2)]),[(.cells [iV a,.sl 6 n (fun i=>eV (g i)),.sl 5 m (fun i=>evV (x i)),iV t,iV k,.sl 1 p (fun i=>iV (r i)),.sl 1 q (fun u=>.sl 1 (ln u) (fun i=>iV (co u i)))]),(.row 3 1 0 (fun _=>.und)),(.row 3 1 c y)]⟩)
noncomputable def body26 (L:LT):St->T (Ex × St):=fun st=>evalC tab ⟨callT tb26,L,Gl⟩ (loopBody Try.f26 0) 0 st
section
variable (L:LT) (a:Int) (n:Nat) (g:Nat->E6) (m:Nat) (x:Nat->Ev5) (t k:Int) (p:Nat) (r:Nat->Int) (q:Nat) (ln:Nat->Nat) (co:Nat->Nat->Int) (z:Int) (b c:Nat) (y:Nat->V)  (j:Nat->V)
include L a n g m x t k p r q ln co z b c y j
theorem r26e (h0:ilt (ofNat b) (ofNat m) = false):roundT (body26 L) (lp26 a n g m x t k p r q ln co z) (st26 a n g m x t k p r q ln co z b c y j) = some ((.ex 0),⟨(jsV 41 0 (fun _=>.und) [(7,(.ref 2))]),[(.cells [(iV a),(.sl 6 n (fun i=>(eV (g i)))),(.sl 5 m (fun i=>(.agg [(iV ((x i)).th),(iV ((x i)).pl),(iV ((x i)).dir),(iV ((x i)).loc),(iV ((x i)).val)]))),(iV t),(iV k),(.sl 1 p (fun i=>(iV (r i)))),(.sl 1 q (fun u=>(.sl 1 (ln u) (fun i=>(iV (co u i))))))]),(.row 3 1 0 (fun _=>.und)),(.row 3 1 c y)]⟩):=by
  exact sem_of_path (ds:=[false]) (cs:=[(ilt (ofNat b) (ofNat m))]) (by kernel_rfl) (by simp only [h0] <;> rfl)
theorem r26y (h0:ilt (ofNat b) (ofNat m) = true) (h18:ile 0 (ofNat b) = true) (h1:ieq ((x b)).th z = true) (h19:apOK c 1 8 = true):roundT (body26 L) (lp26 a n g m x t k p r q ln co z) (st26 a n g m x t k p r q ln co z b c y j) = some (.nm,⟨(jsV 41 0 (fun _=>.und) [(1,(iV z)),(7,(.ref 2)),(24,(.sl 5 m (fun i=>(.agg [(iV ((x i)).th),(iV ((x i)).pl),(iV ((x i)).dir),(iV ((x i)).loc),(iV ((x i)).val)])))),(25,(nV m)),(26,(iV (wr .i64 (iadd (ofNat b) 1))))]),[(.cells [(iV a),(.sl 6 n (fun i=>(eV (g i)))),(.sl 5 m (fun i=>(.agg [(iV ((x i)).th),(iV ((x i)).pl),(iV ((x i)).dir),(iV ((x i)).loc),(iV ((x i)).val)]))),(iV t),(iV k),(.sl 1 p (fun i=>(iV (r i)))),(.sl 1 q (fun u=>(.sl 1 (ln u) (fun i=>(iV (co u i))))))]),(.row 3 1 0 (fun _=>.und)),(.row 3 1 (nadd c 1) (pushGet c y (nV b)))]⟩):=by
  exact sem_of_path (ds:=[true,true,true,true]) (cs:=[(ilt (ofNat b) (ofNat m)),(band (ile 0 (ofNat b)) (ilt (ofNat b) (ofNat m))),(ieq ((x b)).th z),(apOK c 1 8)]) (by kernel_rfl) (by simp only [h0,h18,h1,h19] <;> rfl)
theorem r26n (h0:ilt (ofNat b) (ofNat m) = true) (h18:ile 0 (ofNat b) = true) (h1:ieq ((x b)).th z = false):roundT (body26 L) (lp26 a n g m x t k p r q ln co z) (st26 a n g m x t k p r q ln co z b c y j) = some (.nm,⟨(jsV 41 0 (fun _=>.und) [(1,(iV z)),(7,(.ref 2)),(24,(.sl 5 m (fun i=>(.agg [(iV ((x i)).th),(iV ((x i)).pl),(iV ((x i)).dir),(iV ((x i)).loc),(iV ((x i)).val)])))),(25,(nV m)),(26,(iV (wr .i64 (iadd (ofNat b) 1))))]),[(.cells [(iV a),(.sl 6 n (fun i=>(eV (g i)))),(.sl 5 m (fun i=>(.agg [(iV ((x i)).th),(iV ((x i)).pl),(iV ((x i)).dir),(iV ((x i)).loc),(iV ((x i)).val)]))),(iV t),(iV k),(.sl 1 p (fun i=>(iV (r i)))),(.sl 1 q (fun u=>(.sl 1 (ln u) (fun i=>(iV (co u i))))))]),(.row 3 1 0 (fun _=>.und)),(.row 3 1 c y)]⟩):=by
  exact sem_of_path (ds:=[true,true,false]) (cs:=[(ilt (ofNat b) (ofNat m)),(band (ile 0 (ofNat b)) (ilt (ofNat b) (ofNat m))),(ieq ((x b)).th z)]) (by kernel_rfl) (by simp only [h0,h18,h1] <;> rfl)
end
def jk26 (a:Int) (n:Nat) (g:Nat->E6) (m:Nat) (x:Nat->Ev5) (t k:Int) (p:Nat) (r:Nat->Int) (q:Nat) (ln:Nat->Nat) (co:Nat->Nat->Int) (z:Int) :Nat->V:=lkV undefV [(0,(.agg [(iV a),(.sl 6 n (fun i=>(eV (g i)))),(.sl 5 m (fun i=>(.agg [(iV ((x i)).th),(iV ((x i)).pl),(iV ((x i)).dir),(iV ((x i)).loc),(iV ((x i)).val)]))),(iV t),(iV k),(.sl 1 p (fun i=>(iV (r i)))),(.sl 1 q (fun u=>(.sl 1 (ln u) (fun i=>(iV (co u i))))))])),(2,(.ptr 0 0)),(4,(.ref 1)),(5,(iV 0)),(6,(iV (checkE a n g m x t k p r q ln (fun i i_1=>(co i i_1))))),(10,(.agg [(iV a),(.sl 6 n (fun i=>(eV (g i)))),(.sl 5 m (fun i=>(.agg [(iV ((x i)).th),(iV ((x i)).pl),(iV ((x i)).dir),(iV ((x i)).loc),(iV ((x i)).val)]))),(iV t),(iV k),(.sl 1 p (fun i=>(iV (r i)))),(.sl 1 q (fun u=>(.sl 1 (ln u) (fun i=>(iV (co u i))))))])),(11,(iV (checkE a n g m x t k p r q ln (fun i i_1=>(co i i_1))))),(12,(iV (checkE a n g m x t k p r q ln (fun i i_1=>(co i i_1))))),(13,(bV (bnot (ieq (checkE a n g m x t k p r q ln (fun i i_1=>(co i i_1))) 0)))),(15,(iV z)),(16,(bV (ilt z 0))),(17,(bV (ilt z 0))),(18,(iV z)),(19,(.ptr 0 3)),(20,(iV t)),(21,(bV (ile t z))),(22,(bV (ile t z))),(23,(.ptr 0 2))]
section
variable (L:LT) (a:Int) (n:Nat) (g:Nat->E6) (m:Nat) (x:Nat->Ev5) (t k:Int) (p:Nat) (r:Nat->Int) (q:Nat) (ln:Nat->Nat) (co:Nat->Nat->Int) (z:Int)
include L a n g m x t k p r q ln co z
theorem w26c (h17:allN q (fun i=>(allN (ln i) (fun _=>true))) = true) (h18:fitN n = true) (h19:smallN n = true) (h20:smallN m = true) (h21:smallN p = true) (h22:smallN q = true) (h23:allN q (fun i=>(smallN (ln i))) = true) (h0:ieq (checkE a n g m x t k p r q ln (fun i i_1=>(co i i_1))) 0 = false):(finF (evalF tab ⟨callT tb26,L,Gl⟩ Try.f26 [.agg [iV a,.sl 6 n (fun i=>eV (g i)),.sl 5 m (fun i=>evV (x i)),iV t,iV k,.sl 1 p (fun i=>iV (r i)),.sl 1 q (fun u=>.sl 1 (ln u) (fun i=>iV (co u i)))],iV z] [])).sem = some ((.tup [(.ref 0),(iV (checkE a n g m x t k p r q ln (fun i i_1=>(co i i_1))))]),[(.row 3 1 0 (fun _=>.und))]):=by
  exact sem_of_path (ds:=bbK 7 127) (cs:=[(allN n (fun _=>true)),(allN m (fun _=>true)),(allN p (fun _=>true)),(allN q (fun i=>(allN (ln i) (fun _=>true)))),(fitN n),(band (smallN n) (band (smallN m) (band (smallN p) (band (smallN q) (allN q (fun i=>(smallN (ln i)))))))),(bnot (ieq (checkE a n g m x t k p r q ln (fun i i_1=>(co i i_1))) 0))]) (by kernel_rfl) (by simp only [h17,h18,h19,h20,h21,h22,h23,h0,allN_true] <;> rfl)
theorem w26n (h18:allN q (fun i=>(allN (ln i) (fun _=>true))) = true) (h19:fitN n = true) (h20:smallN n = true) (h21:smallN m = true) (h22:smallN p = true) (h23:smallN q = true) (h24:allN q (fun i=>(smallN (ln i))) = true) (h0:ieq (checkE a n g m x t k p r q ln (fun i i_1=>(co i i_1))) 0 = true) (h1:ilt z 0 = true):(finF (evalF tab ⟨callT tb26,L,Gl⟩ Try.f26 [.agg [iV a,.sl 6 n (fun i=>eV (g i)),.sl 5 m (fun i=>evV (x i)),iV t,iV k,.sl 1 p (fun i=>iV (r i)),.sl 1 q (fun u=>.sl 1 (ln u) (fun i=>iV (co u i)))],iV z] [])).sem = some ((.tup [(.ref 0),(iV 4)]),[(.row 3 1 0 (fun _=>.und))]):=by
  exact sem_of_path (ds:=bbK 13 8127) (cs:=[(allN n (fun _=>true)),(allN m (fun _=>true)),(allN p (fun _=>true)),(allN q (fun i=>(allN (ln i) (fun _=>true)))),(fitN n),(band (smallN n) (band (smallN m) (band (smallN p) (band (smallN q) (allN q (fun i=>(smallN (ln i)))))))),(bnot (ieq (checkE a n g m x t k p r q ln (fun i i_1=>(co i i_1))) 0)),(ilt z 0),(ilt z 0),(ilt z 0),(ilt z 0),(ilt z 0),true]) (by kernel_rfl) (by simp only [h18,h19,h20,h21,h22,h23,h24,h0,h1,allN_true] <;> rfl)
theorem w26g (h19:allN q (fun i=>(allN (ln i) (fun _=>true))) = true) (h20:fitN n = true) (h21:smallN n = true) (h22:smallN m = true) (h23:smallN p = true) (h24:smallN q = true) (h25:allN q (fun i=>(smallN (ln i))) = true) (h0:ieq (checkE a n g m x t k p r q ln (fun i i_1=>(co i i_1))) 0 = true) (h1:ilt z 0 = false) (h2:ile t z = true):(finF (evalF tab ⟨callT tb26,L,Gl⟩ Try.f26 [.agg [iV a,.sl 6 n (fun i=>eV (g i)),.sl 5 m (fun i=>evV (x i)),iV t,iV k,.sl 1 p (fun i=>iV (r i)),.sl 1 q (fun u=>.sl 1 (ln u) (fun i=>iV (co u i)))],iV z] [])).sem = some ((.tup [(.ref 0),(iV 4)]),[(.row 3 1 0 (fun _=>.und))]):=by
  exact sem_of_path (ds:=bbK 13 4159) (cs:=[(allN n (fun _=>true)),(allN m (fun _=>true)),(allN p (fun _=>true)),(allN q (fun i=>(allN (ln i) (fun _=>true)))),(fitN n),(band (smallN n) (band (smallN m) (band (smallN p) (band (smallN q) (allN q (fun i=>(smallN (ln i)))))))),(bnot (ieq (checkE a n g m x t k p r q ln (fun i i_1=>(co i i_1))) 0)),(ilt z 0),(ilt z 0),(ilt z 0),(ilt z 0),(ilt z 0),(ile t z)]) (by kernel_rfl) (by simp only [h19,h20,h21,h22,h23,h24,h25,h0,h1,h2,allN_true] <;> rfl)
end
theorem w26o (L:LT) (p0:PT) (a:Int) (n:Nat) (g:Nat->E6) (m:Nat) (x:Nat->Ev5) (t k:Int) (p:Nat) (r:Nat->Int) (q:Nat) (ln:Nat->Nat) (co:Nat->Nat->Int) (z:Int) (b c:Nat) (y:Nat->V) (h19:allN q (fun i=>(allN (ln i) (fun _=>true))) = true) (h20:fitN n = true) (h21:smallN n = true) (h22:smallN m = true) (h23:smallN p = true) (h24:smallN q = true) (h25:allN q (fun i=>(smallN (ln i))) = true) (h0:ieq (checkE a n g m x t k p r q ln (fun i i_1=>(co i i_1))) 0 = true) (h1:ilt z 0 = false) (h2:ile t z = false) (hp0:p0 (body26 (onP 0 p0 (en26e a n g m x t k p r q ln co z b c y) L)) (st26 a n g m x t k p r q ln co z 0 0 (fun _=>.und) (jk26 a n g m x t k p r q ln co z )) = true):(finF (evalF tab ⟨callT tb26,(onP 0 p0 (en26e a n g m x t k p r q ln co z b c y) L),Gl⟩ Try.f26 [.agg [iV a,.sl 6 n (fun i=>eV (g i)),.sl 5 m (fun i=>evV (x i)),iV t,iV k,.sl 1 p (fun i=>iV (r i)),.sl 1 q (fun u=>.sl 1 (ln u) (fun i=>iV (co u i)))],iV z] [])).sem = some ((.tup [(.ref 0),(iV 0)]),[(.row 3 1 c y)]):=by
  exact sem_of_path (ds:=bbK 14 8255) (cs:=[(allN n (fun _=>true)),(allN m (fun _=>true)),(allN p (fun _=>true)),(allN q (fun i=>(allN (ln i) (fun _=>true)))),(fitN n),(band (smallN n) (band (smallN m) (band (smallN p) (band (smallN q) (allN q (fun i=>(smallN (ln i)))))))),(bnot (ieq (checkE a n g m x t k p r q ln (fun i i_1=>(co i i_1))) 0)),(ilt z 0),(ilt z 0),(ilt z 0),(ilt z 0),(ilt z 0),(ile t z),(p0 (body26 (onP 0 p0 (en26e a n g m x t k p r q ln co z b c y) L)) (st26 a n g m x t k p r q ln co z 0 0 (fun _=>.und) (jk26 a n g m x t k p r q ln co z )))]) (by kernel_rfl) (by simp only [hp0] <;> simp only [h19,h20,h21,h22,h23,h24,h25,h0,h1,h2,allN_true] <;> rfl)
theorem run26 (L:LT) (a:Int) (n:Nat) (g:Nat->E6) (m:Nat) (x:Nat->Ev5) (t k:Int) (p:Nat) (r:Nat->Int) (q:Nat) (ln:Nat->Nat) (co:Nat->Nat->Int) (z:Int) (h8:m * 8 <= 140737488355328):∀ (e b:Nat) (j:Nat->V) (u:Nat),m = b+e->e < u ->
    (iterT (body26 L) (lp26 a n g m x t k p r q ln co z) u (st26 a n g m x t k p r q ln co z b (cntB (fun i=>ieq (x i).th z) b) (pushP (fun i=>ieq (x i).th z) (fun i=>ofNat i) b) j)).sem = some (en26e a n g m x t k p r q ln co z m (cntB (fun i=>ieq (x i).th z) m) (pushP (fun i=>ieq (x i).th z) (fun i=>ofNat i) m))
  | 0,b,j,u+1,h,_=>by
    have:m = b:=by omega
    subst this
    exact iter_round (r26e L a n g m x t k p r q ln co z m _ _ j (ofNat_ge (Nat.le_refl _)))
  | e+1,b,j,u+1,h,h2=>by
    have hl:b < m:=by omega
    have hcl:=cntB_le (fun i=>ieq (x i).th z) b
    have next:=run26 L a n g m x t k p r q ln co z h8 e (b+1) (fun _=>.und) u (by omega) (by omega)
    cases hp:(fun i=>ieq (x i).th z) b with
    | true =>
      rw [iter_round (r26y L a n g m x t k p r q ln co z b (cntB (fun i=>ieq (x i).th z) b) (pushP (fun i=>ieq (x i).th z) (fun i=>ofNat i) b) j (ofNat_lt hl) (ofNat_0 b) hp (ap_ok (by omega))),goOn_nm,succ_wr hl (by omega)]
      rw [pushP_t hp,cntB_t hp] at next
      exact next
    | false=>
      rw [iter_round (r26n L a n g m x t k p r q ln co z b (cntB (fun i=>ieq (x i).th z) b) (pushP (fun i=>ieq (x i).th z) (fun i=>ofNat i) b) j (ofNat_lt hl) (ofNat_0 b) hp),goOn_nm,succ_wr hl (by omega)]
      rw [pushP_f hp,cntB_f hp] at next
      exact next
theorem p26:PureC Try.prog Gl 26 threadT:=by
  refine pureC_intro tabOK mixed Try.func26 (by kernel_rfl) (by kernel_rfl) fun vs v h' h=>?_
  unfold threadT at h
  split at h
  · rename_i v1 z
    obtain ⟨s,a1,h⟩:=apS_some h
    obtain ⟨hf,h⟩:=sem_br_fail h
    obtain ⟨h8,h⟩:=sem_br_fail h
    obtain ⟨hn,h⟩:=sem_br_fail h
    obtain ⟨a,n,g,m,x,t,k,p,r,q,C⟩:=s
    have hA:ArgLE [v1,iV z] [.agg [iV a,.sl 6 n (fun i=>eV (g i)),.sl 5 m (fun i=>evV (x i)),iV t,iV k,.sl 1 p (fun i=>iV (r i)),.sl 1 q (fun u=>.sl 1 (C u).1 (fun i=>iV ((C u).2 i)))],iV z]:=fun S w cs hv=>by
      obtain ⟨c,l,rfl,q1,q2⟩:=hv
      exact ⟨c,_,rfl,a1 S w c q1,q2⟩
    have hn:smallN n = true ∧ smallN m = true ∧ smallN p = true ∧ smallN q = true ∧ (allN q fun i=>smallN (C i).1) = true:=by simpa [smallS,band] using hn
    obtain ⟨n1,n2,n3,n4,n5⟩:=hn
    have all2:∀ (q:Nat) (ln:Nat->Nat),(allN q fun i=>allN (ln i) fun _=>true) = true:=fun _ _=>allN_iff.2 fun _ _=>allN_iff.2 fun _ _=>rfl
    obtain ⟨ln,co,hC⟩:∃ (ln:Nat->Nat) (co:Nat->Nat->Int),C = fun u=>(ln u,co u):=⟨fun u=>(C u).1,fun u=>(C u).2,rfl⟩
    subst hC
    have hx:=cx_ok tb26_ok [(0,lp26 a n g m x t k p r q ln co z)] (G:=Gl)
    have hL:=loopsBy_le [(0,lp26 a n g m x t k p r q ln co z)]
    cases hs:checkS ⟨a,n,g,m,x,t,k,p,r,q,fun u=>(ln u,co u)⟩ with
    | false =>
      rw [hs] at h
      have:=sem_leaf h
      simp only [noI,Prod.mk.injEq] at this
      obtain ⟨rfl,rfl⟩:=this
      have hc:ieq (checkE a n g m x t k p r q ln co) 0 = false:=by unfold checkE; rw [hs]; rfl
      have hv:checkE a n g m x t k p r q ln co = 70:=by unfold checkE; rw [hs]; rfl
      refine ⟨_,cxOf Gl tb26 [(0,lp26 a n g m x t k p r q ln co z)],_,hA,rfl,hx.1,hx.2,?_,RowsLE.refl _⟩
      have hw:=w26c (loopsBy [(0,lp26 a n g m x t k p r q ln co z)]) a n g m x t k p r q ln co z (all2 _ _) hf n1 n2 n3 n4 n5 hc
      rw [hv] at hw
      exact hw
    | true =>
      rw [hs] at h
      have hc:ieq (checkE a n g m x t k p r q ln co) 0 = true:=by unfold checkE; rw [hs]; rfl
      cases hz:ilt z 0 with
      | true =>
        rw [show bor (ilt z 0) (ile t z) = true by rw [hz]; rfl] at h
        have:=sem_leaf h
        simp only [noI,Prod.mk.injEq] at this
        obtain ⟨rfl,rfl⟩:=this
        exact ⟨_,cxOf Gl tb26 [(0,lp26 a n g m x t k p r q ln co z)],_,hA,rfl,hx.1,hx.2,w26n _ a n g m x t k p r q ln co z (all2 _ _) hf n1 n2 n3 n4 n5 hc hz,RowsLE.refl _⟩
      | false =>
      cases hg:ile t z with
      | true =>
        rw [show bor (ilt z 0) (ile t z) = true by rw [hz,hg]; rfl] at h
        have:=sem_leaf h
        simp only [noI,Prod.mk.injEq] at this
        obtain ⟨rfl,rfl⟩:=this
        exact ⟨_,cxOf Gl tb26 [(0,lp26 a n g m x t k p r q ln co z)],_,hA,rfl,hx.1,hx.2,w26g _ a n g m x t k p r q ln co z (all2 _ _) hf n1 n2 n3 n4 n5 hc hz hg,RowsLE.refl _⟩
      | false =>
      rw [show bor (ilt z 0) (ile t z) = false by rw [hz,hg]; rfl] at h
      have:=sem_leaf h
      simp only [noI,Prod.mk.injEq] at this
      obtain ⟨rfl,rfl⟩:=this
      have h8':m * 8 <= 140737488355328:=of_decide_eq_true h8
      have hrun:=fun L j=>run26 L a n g m x t k p r q ln co z h8' m 0 j (m+1) (by omega) (by omega)
      refine ⟨_,cxOf Gl tb26 [(0,lp26 a n g m x t k p r q ln co z)],_,hA,rfl,hx.1,hx.2,told_le (onP_le hL hL) _ (w26o _ _ a n g m x t k p r q ln co z m (cntB (fun i=>ieq (x i).th z) m) (pushP (fun i=>ieq (x i).th z) (fun i=>ofNat i) m) (all2 _ _) hf n1 n2 n3 n4 n5 hc hz hg (isP_true (hrun _ _))),?_⟩
      exact RowsLE.one fun i hi=>(pushP_eq _ _ i hi).symm
  · cases h
end Go.Proofs.Ytjhnfomefcngfaa.Sh
