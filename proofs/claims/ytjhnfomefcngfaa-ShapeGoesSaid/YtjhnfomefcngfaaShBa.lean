/-
  Layer 7: which edges are communications, lead to other threads, to other locations (the program's shape package); where a number stands in a list. No conditions.
-/
import Derived.Test.YtjhnfomefcngfaaCyP
namespace Go.Proofs.Ytjhnfomefcngfaa.Sh
open Go.Sy Ed
open Int (ofNat)
theorem tree91 (e:E6):(finF (evalF tab (cxOf Gl [] []) Try.f91 [eV e] [])).sem = (sel (ieq (e).kind 1) (sel (ieq (e).kind 1) (sel (ieq (e).kind 1) (sel (ieq (e).kind 1) (some ((bV true),[])) none) none) none) (sel (ieq (e).kind 1) (sel (ieq (e).kind 1) (sel (ieq (e).kind 1) (some ((bV true),[])) none) none) (sel (ieq (e).kind 1) (sel (ieq (e).kind 1) (some ((bV true),[])) none) (sel (ieq (e).kind 1) (some ((bV true),[])) (sel (ieq (e).kind 2) (sel (ieq (e).kind 2) (sel (ieq (e).kind 2) (sel (ieq (e).kind 2) (some ((bV true),[])) (some (undefV,[]))) none) none) (sel (ieq (e).kind 2) (sel (ieq (e).kind 2) (sel (ieq (e).kind 2) (some ((bV true),[])) (some (undefV,[]))) none) (sel (ieq (e).kind 2) (sel (ieq (e).kind 2) (some ((bV true),[])) (some (undefV,[]))) (sel (ieq (e).kind 2) (some ((bV true),[])) (some ((bV (ieq (e).kind 3)),[])))))))))):=by kernel_rfl
theorem p91:PureC Try.prog Gl 91 (edgeT fun e=>bV (commB e)):=by
  refine PureC.congr (pureC_body tabOK mixed Try.func91 (by kernel_rfl) (by kernel_rfl) (Γ:=cxOf Gl [] []) (cx_ok AllPure.nil _)) fun vs r h=>?_
  obtain ⟨e,rfl,rfl⟩:=edgeT_some h
  refine (tree91 e).trans ?_
  rw [commB_eq]
  cases ieq e.kind 1 <;> cases ieq e.kind 2 <;> cases ieq e.kind 3 <;> rfl
noncomputable def tb52:List (Nat × (List V->T (V × List Blk))):=(91,edgeT fun e=>bV (commB e)) :: []
theorem tb52_ok:AllPure Try.prog Gl tb52:=.cons p91 .nil
theorem tree52 (e:E6):(finF (evalF tab (cxOf Gl tb52 []) Try.f52 [eV e] [])).sem = (sel (commB e) (sel (commB e) (sel (commB e) (some ((bV (e).ext),[])) (some ((bV false),[]))) (sel (commB e) (some (undefV,[])) (some ((bV false),[])))) (sel (commB e) none (sel (commB e) (some (undefV,[])) (some ((bV false),[]))))):=by kernel_rfl
theorem p52:PureC Try.prog Gl 52 (edgeT fun e=>bV (outB e)):=by
  refine PureC.congr (pureC_body tabOK mixed Try.func52 (by kernel_rfl) (by kernel_rfl) (Γ:=cxOf Gl tb52 []) (cx_ok tb52_ok _)) fun vs r h=>?_
  obtain ⟨e,rfl,rfl⟩:=edgeT_some h
  refine (tree52 e).trans ?_
  unfold outB
  cases commB e <;> rfl
theorem tree54 (e:E6):(finF (evalF tab (cxOf Gl tb52 []) Try.f54 [eV e] [])).sem = (sel (bnot (commB e)) (sel (bnot (commB e)) (sel (bnot (commB e)) (sel (bnot (commB e)) (some ((bV (bnot (e).same)),[])) (some ((bV false),[]))) (sel (bnot (commB e)) (some (undefV,[])) (some ((bV false),[])))) (sel (bnot (commB e)) none (sel (bnot (commB e)) (some (undefV,[])) (some ((bV false),[]))))) (sel (bnot (commB e)) none (sel (bnot (commB e)) none (sel (bnot (commB e)) (some (undefV,[])) (some ((bV false),[])))))):=by kernel_rfl
theorem p54:PureC Try.prog Gl 54 (edgeT fun e=>bV (movB e)):=by
  refine PureC.congr (pureC_body tabOK mixed Try.func54 (by kernel_rfl) (by kernel_rfl) (Γ:=cxOf Gl tb52 []) (cx_ok tb52_ok _)) fun vs r h=>?_
  obtain ⟨e,rfl,rfl⟩:=edgeT_some h
  refine (tree54 e).trans ?_
  unfold movB
  cases commB e <;> rfl
noncomputable def idxI (n:Nat) (f:Nat->Int) (x:Int):Int:=match (List.range n).find? fun i=>ieq x (f i) with
  | some i=>ofNat i
  | none=>-1
theorem idx_found {n:Nat} {f:Nat->Int} {x:Int} {i:Nat} (hi:i < n) (h:ieq x (f i) = true) (hb:∀ k,k < i->ieq x (f k) = false):idxI n f x = ofNat i:=by
  unfold idxI
  have:(List.range n).find? (fun i=>ieq x (f i)) = some i:=by
    rw [List.find?_range_eq_some]
    exact ⟨h,by simpa using hi,fun j hj=>by rw [hb j hj]; rfl⟩
  rw [this]
theorem idx_none {n:Nat} {f:Nat->Int} {x:Int} (h:∀ k,k < n->ieq x (f k) = false):idxI n f x = -1:=by
  unfold idxI
  have:(List.range n).find? (fun i=>ieq x (f i)) = none:=by
    rw [List.find?_eq_none]
    intro k hk
    rw [h k (by simpa using hk)]
    simp
  rw [this]
def lp92 (n:Nat) (f:Nat->Int) (x:Int):Lp:=⟨(bmK 19 0 [0,1,4,7,8]),0,(bmK 19 0 [4]),0,n+1⟩
def st92 (n:Nat) (f:Nat->Int) (x:Int) (b:Nat) (j:Nat->V):St:=⟨(jsV 19 0 j [(0,.sl 1 n fun k=>iV (f k)),(1,iV x),(4,iV 0),(7,nV n),(8,nV b)]),[]⟩
def en92f (n:Nat) (f:Nat->Int) (x:Int) (b:Nat):Ex × St:=(.rt,⟨(jsV 19 0 (fun _=>.und) [(4,nV b)]),[]⟩)
def en92e (n:Nat) (f:Nat->Int) (x:Int) (b:Nat):Ex × St:=(.ex 0,⟨(jsV 19 0 (fun _=>.und) [(4,iV 0)]),[]⟩)
noncomputable def body92 (L:LT):St->T (Ex × St):=fun st=>evalC tab ⟨callT tb0,L,Gl⟩ (loopBody Try.f92 0) 0 st
section
variable (L:LT) (n:Nat) (f:Nat->Int) (x:Int) (b:Nat)  (j:Nat->V)
include L n f x b j
theorem ri92f (h0:ilt (ofNat b) (ofNat n) = true) (h11:ile 0 (ofNat b) = true) (h1:ieq x (f b) = false):roundT (body92 L) (lp92 n f x) (st92 n f x b j) = some (.nm,⟨(jsV 19 0 (fun _=>.und) [(0,(.sl 1 n (fun k=>(iV (f k))))),(1,(iV x)),(4,(iV 0)),(7,(nV n)),(8,(iV (wr .i64 (iadd (ofNat b) 1))))]),[]⟩):=by
  exact sem_of_path (ds:=[true,true,false]) (cs:=[(ilt (ofNat b) (ofNat n)),(band (ile 0 (ofNat b)) (ilt (ofNat b) (ofNat n))),(ieq x (f b))]) (by kernel_rfl) (by simp only [h0,h11,h1] <;> rfl)
theorem ri92t (h0:ilt (ofNat b) (ofNat n) = true) (h11:ile 0 (ofNat b) = true) (h1:ieq x (f b) = true):roundT (body92 L) (lp92 n f x) (st92 n f x b j) = some (.rt,⟨(jsV 19 0 (fun _=>.und) [(4,(nV b))]),[]⟩):=by
  exact sem_of_path (ds:=[true,true,true]) (cs:=[(ilt (ofNat b) (ofNat n)),(band (ile 0 (ofNat b)) (ilt (ofNat b) (ofNat n))),(ieq x (f b))]) (by kernel_rfl) (by simp only [h0,h11,h1] <;> rfl)
theorem ri92e (h0:ilt (ofNat b) (ofNat n) = false):roundT (body92 L) (lp92 n f x) (st92 n f x b j) = some ((.ex 0),⟨(jsV 19 0 (fun _=>.und) [(4,(iV 0))]),[]⟩):=by
  exact sem_of_path (ds:=[false]) (cs:=[(ilt (ofNat b) (ofNat n))]) (by kernel_rfl) (by simp only [h0] <;> rfl)
end
def jk92 (n:Nat) (f:Nat->Int) (x:Int) :Nat->V:=lkV undefV [(6,(.sl 1 n (fun k=>(iV (f k)))))]
theorem wi92t (L:LT) (p0:PT) (n:Nat) (f:Nat->Int) (x:Int) (b:Nat)  (hp0:p0 (body92 (onP 0 p0 (en92f n f x b) L)) (st92 n f x 0 (jk92 n f x )) = true):(finF (evalF tab ⟨callT tb0,(onP 0 p0 (en92f n f x b) L),Gl⟩ Try.f92 [.sl 1 n fun k=>iV (f k),iV x] [])).sem = some ((nV b),[]):=by
  exact sem_of_path (ds:=[true]) (cs:=[(p0 (body92 (onP 0 p0 (en92f n f x b) L)) (st92 n f x 0 (jk92 n f x )))]) (by kernel_rfl) (by simp only [hp0] <;> rfl)
theorem wi92e (L:LT) (p0:PT) (n:Nat) (f:Nat->Int) (x:Int)  (hp0:p0 (body92 (onP 0 p0 (en92e n f x 0) L)) (st92 n f x 0 (jk92 n f x )) = true):(finF (evalF tab ⟨callT tb0,(onP 0 p0 (en92e n f x 0) L),Gl⟩ Try.f92 [.sl 1 n fun k=>iV (f k),iV x] [])).sem = some ((iV (-1)),[]):=by
  exact sem_of_path (ds:=[true]) (cs:=[(p0 (body92 (onP 0 p0 (en92e n f x 0) L)) (st92 n f x 0 (jk92 n f x )))]) (by kernel_rfl) (by simp only [hp0] <;> rfl)
theorem run92 (L:LT) (n:Nat) (f:Nat->Int) (x:Int) (hn:n <= 4611686018427387904):∀ (e i:Nat) (j:Nat->V) (q:Nat),n = i+e->e < q->(∀ k,k < i->ieq x (f k) = false) ->
    ((iterT (body92 L) (lp92 n f x) q (st92 n f x i j)).sem = some (en92e n f x 0) ∧ idxI n f x = -1) ∨ ∃ b,(iterT (body92 L) (lp92 n f x) q (st92 n f x i j)).sem = some (en92f n f x b) ∧ idxI n f x = ofNat b
  | 0,i,j,q+1,h,_,hb=>by
    have:n = i:=by omega
    subst this
    exact .inl ⟨iter_round (ri92e L n f x n j (ofNat_ge (Nat.le_refl _))),idx_none hb⟩
  | e+1,i,j,q+1,h,h2,hb=>by
    have hl:i < n:=by omega
    cases hp:ieq x (f i) with
    | true =>
      exact .inr ⟨i,iter_round (ri92t L n f x i j (ofNat_lt hl) (ofNat_0 i) hp),idx_found hl hp hb⟩
    | false =>
      rw [iter_round (ri92f L n f x i j (ofNat_lt hl) (ofNat_0 i) hp),goOn_nm,succ_wr hl hn]
      refine run92 L n f x hn e (i+1) (fun _=>.und) q (by omega) (by omega) fun k hk=>?_
      by_cases hki:k = i
      · rw [hki]; exact hp
      · exact hb k (by omega)
noncomputable def indexT:List V->T (V × List Blk)
  | [v,.val (.int .i64 x)]=>apI v fun n f=>.br (fit8 n) (.leaf (iV (idxI n f x),[])) .fail
  | _=>.fail
theorem p92:PureC Try.prog Gl 92 indexT:=by
  refine pureC_intro tabOK mixed Try.func92 (by kernel_rfl) (by kernel_rfl) fun vs v h' h=>?_
  unfold indexT at h
  split at h
  · rename_i u x
    obtain ⟨n,f,ha,h1⟩:=apI_some h
    obtain ⟨h8,hq⟩:=sem_br_fail h1
    have:=sem_leaf hq
    simp only [Prod.mk.injEq] at this
    obtain ⟨rfl,rfl⟩:=this
    have h8':n * 8 <= 140737488355328:=of_decide_eq_true h8
    have hA:ArgLE [u,iV x] [intsV n f,iV x]:=fun S w cs hv=>by
      obtain ⟨c,l,rfl,q1,q2⟩:=hv
      exact ⟨c,l,rfl,ha S w c q1,q2⟩
    have hx:=cx_ok tb0_ok [(0,lp92 n f x)] (G:=Gl)
    have hL:=loopsBy_le [(0,lp92 n f x)]
    refine ⟨_,cxOf Gl tb0 [(0,lp92 n f x)],_,hA,rfl,hx.1,hx.2,?_,RowsLE.refl _⟩
    have h0:=fun L j=>run92 L n f x (by omega) n 0 j (n+1) (by omega) (by omega) (fun k hk=>absurd hk (Nat.not_lt_zero _))
    rcases h0 (loopsBy [(0,lp92 n f x)]) (jk92 n f x) with ⟨_,h5⟩ | ⟨b,_,h5⟩
    · have h6:∀ L j,(iterT (body92 L) (lp92 n f x) (n+1) (st92 n f x 0 j)).sem = some (en92e n f x 0):=fun L j=>by
        rcases h0 L j with ⟨h,_⟩ | ⟨b,_,h⟩
        · exact h
        · rw [h5] at h
          cases h
      rw [h5]
      exact told_le (onP_le hL hL) _ (wi92e _ _ n f x (isP_true (h6 _ _)))
    · have h6:∀ L j,(iterT (body92 L) (lp92 n f x) (n+1) (st92 n f x 0 j)).sem = some (en92f n f x b):=fun L j=>by
        rcases h0 L j with ⟨_,h⟩ | ⟨b',h,h'⟩
        · rw [h5] at h
          cases h
        · rw [h5] at h'
          cases h'
          exact h
      rw [h5]
      exact told_le (onP_le hL hL) _ (wi92t _ _ n f x b (isP_true (h6 _ _)))
  · cases h
end Go.Proofs.Ytjhnfomefcngfaa.Sh
namespace Go.Proofs.Ytjhnfomefcngfaa.Sh
open Go.Sy Ed
inductive Begin (p:Nat->Bool) (n:Nat):Nat->Prop
  | none:(∀ k,k < n->p k = false)->Begin p n 0
  | last:0 < n->p (n - 1) = true->Begin p n 0
  | first {z:Nat}:0 < z->z < n->p (z - 1) = true->(∀ k,k < z - 1->p k = false)->p (n - 1) = false->Begin p n z
theorem cntB_zero {p:Nat->Bool}:∀ {k:Nat},(∀ i,i < k->p i = false)->cntB p k = 0
  | 0,_=>rfl
  | k+1,h=>by rw [cntB_f (h k (Nat.lt_succ_self k)),cntB_zero fun i hi=>h i (by omega)]
theorem cntB_step (p:Nat->Bool) (k:Nat):cntB p (k+1) = cntB p k ∨ cntB p (k+1) = cntB p k+1:=by
  cases h:p k with
  | true=>exact .inr (cntB_t h)
  | false=>exact .inl (cntB_f h)
def turnP (p:Nat->Bool) (n z t:Nat):Bool:=p ((z+t) % n)
theorem cnt_turn1 {p:Nat->Bool} {n z:Nat}:∀ {t:Nat},z+t <= n->cntB (turnP p n z) t+cntB p z = cntB p (z+t)
  | 0,_=>by simp [cntB]
  | t+1,h=>by
    have ih:=cnt_turn1 (p:=p) (n:=n) (z:=z) (t:=t) (by omega)
    have he:turnP p n z t = p (z+t):=by unfold turnP; rw [Nat.mod_eq_of_lt (by omega)]
    rw [show z+(t+1) = z+t+1 by omega]
    cases hp:p (z+t) with
    | true=>rw [cntB_t (he.trans hp),cntB_t hp]; omega
    | false=>rw [cntB_f (he.trans hp),cntB_f hp]; exact ih
theorem cnt_turn2 {p:Nat->Bool} {n z:Nat} (hz:z <= n):∀ {i:Nat},i <= z->cntB (turnP p n z) (n - z+i)+cntB p z = cntB p n+cntB p i
  | 0,_=>by
    have:=cnt_turn1 (p:=p) (n:=n) (z:=z) (t:=n - z) (by omega)
    rw [show z+(n - z) = n by omega] at this
    simpa [cntB] using this
  | i+1,h=>by
    have ih:=cnt_turn2 (p:=p) (n:=n) (z:=z) hz (i:=i) (by omega)
    have he:turnP p n z (n - z+i) = p i:=by
      unfold turnP
      rw [show z+(n - z+i) = i+n by omega,Nat.add_mod_right,Nat.mod_eq_of_lt (by omega)]
    rw [show n - z+(i+1) = n - z+i+1 by omega]
    cases hp:p i with
    | true=>rw [cntB_t (he.trans hp),cntB_t hp]; omega
    | false=>rw [cntB_f (he.trans hp),cntB_f hp]; exact ih
def posN (n z i:Nat):Nat:=(i+(n - z)) % n
def partN (p:Nat->Bool) (n k:Nat):Nat:=if cntB p k = cntB p n then 0 else cntB p k
theorem partF_N {p:Nat->Bool} {n k:Nat} (h:k < n):partF p n k = Int.ofNat (partN p n k):=by
  unfold partF partN
  rw [show decide (k < n) = true by simpa using h]
  simp only [cond_true]
  by_cases he:cntB p k = cntB p n
  · simp [he]
  · simp [he]
def snN (p:Nat->Bool) (n z v:Nat):Nat:=if z = 0 then v else if v = 0 then cntB p n - 1 else v - 1
theorem part_sn {p:Nat->Bool} {n z:Nat} (hb:Begin p n z) {i:Nat} (hi:i < n):cntB (turnP p n z) (posN n z i) = snN p n z (partN p n i):=by
  have hmi:=cntB_mono p (show i <= n by omega)
  cases hb with
  | none h0 =>
    have h1:cntB p n = 0:=cntB_zero h0
    have h2:posN n 0 i = i:=by unfold posN; rw [Nat.sub_zero,Nat.add_mod_right,Nat.mod_eq_of_lt hi]
    have h3:=cnt_turn1 (p:=p) (n:=n) (z:=0) (t:=i) (by omega)
    rw [Nat.zero_add] at h3
    rw [h2]
    unfold snN partN
    rw [if_pos rfl,h1]
    simp [cntB] at h3
    rw [h3]
    split <;> omega
  | last hn h0 =>
    have h2:posN n 0 i = i:=by unfold posN; rw [Nat.sub_zero,Nat.add_mod_right,Nat.mod_eq_of_lt hi]
    have h3:=cnt_turn1 (p:=p) (n:=n) (z:=0) (t:=i) (by omega)
    rw [Nat.zero_add] at h3
    have h4:cntB p n = cntB p (n - 1)+1:=by
      have:=cntB_t h0
      rwa [show n - 1+1 = n by omega] at this
    have h5:=cntB_mono p (show i <= n - 1 by omega)
    rw [h2]
    unfold snN partN
    rw [if_pos rfl]
    simp [cntB] at h3
    rw [h3,if_neg (by omega)]
  | first hz hzn h0 h1 h2 =>
    have c0:cntB p (z - 1) = 0:=cntB_zero h1
    have c1:cntB p z = 1:=by
      have:=cntB_t h0
      rwa [show z - 1+1 = z by omega,c0] at this
    have hK:=cntB_mono p (show z <= n by omega)
    unfold snN partN
    rw [if_neg (by omega)]
    rcases Nat.lt_or_ge i z with hc | hc
    · have e1:posN n z i = n - z+i:=by unfold posN; rw [Nat.mod_eq_of_lt (by omega)]; omega
      have e2:=cnt_turn2 (p:=p) (n:=n) (z:=z) (by omega) (i:=i) (by omega)
      have e3:cntB p i = 0:=cntB_zero fun k hk=>h1 k (by omega)
      have e4:(if cntB p i = cntB p n then 0 else cntB p i) = 0:=by split <;> omega
      rw [e1,if_pos e4]
      omega
    · have e1:posN n z i = i - z:=by unfold posN; rw [show i+(n - z) = i - z+n by omega,Nat.add_mod_right,Nat.mod_eq_of_lt (by omega)]
      have e2:=cnt_turn1 (p:=p) (n:=n) (z:=z) (t:=i - z) (by omega)
      rw [show z+(i - z) = i by omega] at e2
      have e3:=cntB_mono p hc
      rw [e1]
      by_cases he:cntB p i = cntB p n
      · rw [if_pos he,if_pos rfl]; omega
      · rw [if_neg he,if_neg (by omega:¬ cntB p i = 0)]; omega
theorem sn_inj {p:Nat->Bool} {n z u v:Nat} (hu:u <= v) (hv:v = 0 ∨ v < cntB p n) (h:snN p n z u = snN p n z v):u = v:=by
  unfold snN at h
  split at h
  · exact h
  · split at h <;> split at h <;> omega
def rN (p:Nat->Bool) (n:Nat):Nat->Nat
  | 0=>0
  | b+1=>if partN p n b < rN p n b then rN p n b else rN p n b+1
theorem partN_lt {p:Nat->Bool} {n k:Nat} (h:k <= n):partN p n k = 0 ∨ partN p n k < cntB p n:=by
  have:=cntB_mono p h
  unfold partN
  split
  · exact .inl rfl
  · exact .inr (by omega)
theorem part_0 (p:Nat->Bool) (n:Nat):partN p n 0 = 0:=by
  have h:cntB p 0 = 0:=rfl
  unfold partN
  split
  · rfl
  · exact h
theorem rN_eq (p:Nat->Bool) (n:Nat):∀ b,b < n->rN p n (b+1) = if cntB p b = cntB p n then max (cntB p n) 1 else cntB p b+1
  | 0,h=>by
    have h1:rN p n (0+1) = 1:=by
      rw [rN,part_0]
      simp [rN]
    have h2:cntB p 0 = 0:=rfl
    rw [h1,h2]
    split <;> omega
  | b+1,h=>by
    have ih:=rN_eq p n b (by omega)
    have h1:=cntB_mono p (show b+1 <= n by omega)
    have h2:=cntB_mono p (show b <= n by omega)
    have h3:=cntB_mono p (show b <= b+1 by omega)
    have h4:=cntB_step p b
    rw [rN,ih]
    unfold partN
    by_cases e1:cntB p (b+1) = cntB p n
    · rw [if_pos e1,if_pos e1]
      by_cases e2:cntB p b = cntB p n
      · rw [if_pos e2,if_pos (by omega)]
      · rw [if_neg e2,if_pos (by omega)]; omega
    · rw [if_neg e1,if_neg e1]
      have e2:¬ cntB p b = cntB p n:=by omega
      rw [if_neg e2]
      split <;> omega
theorem part_le (p:Nat->Bool) (n:Nat):∀ b,b < n->partN p n b <= rN p n b
  | 0,h=>by
    rw [part_0]
    exact Nat.zero_le _
  | b+1,h=>by
    rw [rN_eq p n b (by omega)]
    have h1:=cntB_mono p (show b+1 <= n by omega)
    have h4:=cntB_step p b
    have h3:=cntB_mono p (show b <= b+1 by omega)
    unfold partN
    split
    · omega
    · split <;> omega
theorem rN_le (p:Nat->Bool) (n:Nat):∀ b,rN p n b <= b
  | 0=>Nat.le_refl _
  | b+1=>by
    have:=rN_le p n b
    simp only [rN]
    split <;> omega
theorem rN_lt (p:Nat->Bool) (n:Nat):∀ b,b <= n->∀ v,v < rN p n b->v = 0 ∨ v < cntB p n
  | 0,_,v,h=>by simp [rN] at h
  | b+1,hb,v,h=>by
    have ih:=rN_lt p n b (by omega) v
    simp only [rN] at h
    split at h
    · exact ih h
    · rename_i h2
      have h3:=part_le p n b (by omega)
      by_cases hv:v < rN p n b
      · exact ih hv
      · have:v = partN p n b:=by omega
        rw [this]
        exact partN_lt (by omega)
end Go.Proofs.Ytjhnfomefcngfaa.Sh
