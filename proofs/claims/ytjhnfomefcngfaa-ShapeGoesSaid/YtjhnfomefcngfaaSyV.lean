/-
  Callees told by one fact, as loops are: what the told function answers, the function answers. Conditions: as before.
-/
import Derived.Test.YtjhnfomefcngfaaSyS
import Derived.Test.YtjhnfomefcngfaaCyA
namespace Go.Sy
def CLe (c c':FuncId->List V->St->T (V × Res)):Prop:=∀ f vs st,TLe (c f vs st) (c' f vs st)
theorem CLe.refl (c:FuncId->List V->St->T (V × Res)):CLe c c:=fun _ _ _=>TLe.refl _
section
variable {τ:List Ty} {c c':FuncId->List V->St->T (V × Res)} {G:Nat->V}
theorem ev_leC (st:St) (x:Operand):ev ⟨c,G⟩ st x = ev ⟨c',G⟩ st x:=by cases x <;> rfl
theorem args_leC (st:St):∀ l:List Operand,args ⟨c,G⟩ st l = args ⟨c',G⟩ st l
  | []=>rfl
  | x :: l=>by
    show ev ⟨c,G⟩ st x :: args ⟨c,G⟩ st l = ev ⟨c',G⟩ st x :: args ⟨c',G⟩ st l
    rw [ev_leC (c:=c) (c':=c'),args_leC st l]
theorem evs_leC (st:St):∀ l:List (Nat × Operand),evs ⟨c,G⟩ st l = evs ⟨c',G⟩ st l
  | []=>rfl
  | (i,x) :: l=>by
    show (i,ev ⟨c,G⟩ st x) :: evs ⟨c,G⟩ st l = (i,ev ⟨c',G⟩ st x) :: evs ⟨c',G⟩ st l
    rw [ev_leC (c:=c) (c':=c'),evs_leC st l]
theorem stepQ_leC (h:CLe c c') (o:Oper) (st:St):TLe (stepQ τ ⟨c,G⟩ o st) (stepQ τ ⟨c',G⟩ o st):=by
  have e1:=fun st x=>ev_leC (c:=c) (c':=c') (G:=G) st x
  have e2:=fun st x=>args_leC (c:=c) (c':=c') (G:=G) st x
  have e3:=fun st x=>evs_leC (c:=c) (c':=c') (G:=G) st x
  unfold stepQ
  cases ho:o.op with
  | call k =>
    simp only
    cases hk:k.callee with
    | value f =>
      simp only [e1,e2]
      split
      · exact TLe.bind (h _ _ _) fun _=>TLe.refl _
      · exact TLe.refl _
    | builtin b =>
      simp only [e2]
      cases b <;> exact TLe.refl _
    | invoke r m=>exact TLe.refl _
  | makeFunc fn first captured =>
    simp only [e1,e2,e3]
    cases fn <;> exact TLe.refl _
  | slice t x lo hi mx =>
    have e4:ev (⟨c,G⟩:Cx0) st = ev ⟨c',G⟩ st:=funext (e1 st)
    simp only [e4]
    cases mx <;> exact TLe.refl _
  | lookup t m x ok =>
    simp only [e1,e2,e3]
    cases ok <;> exact TLe.refl _
  | _ =>
    simp only [e1,e2,e3]
    exact TLe.refl _
theorem step_leC (h:CLe c c') (o:Oper) (st:St):TLe (step τ ⟨c,G⟩ o st) (step τ ⟨c',G⟩ o st):=by
  have e1:=fun st x=>ev_leC (c:=c) (c':=c') (G:=G) st x
  have e2:=fun st x=>args_leC (c:=c) (c':=c') (G:=G) st x
  have e3:=fun st x=>evs_leC (c:=c) (c':=c') (G:=G) st x
  have quiet:TLe (keep st (stepQ τ ⟨c,G⟩ o st)) (keep st (stepQ τ ⟨c',G⟩ o st)):=TLe.bind (stepQ_leC h o st) fun _=>TLe.refl _
  have e4:ev (⟨c,G⟩:Cx0) st = ev ⟨c',G⟩ st:=funext (e1 st)
  have loud:∀ k:Call,TLe (stepC τ ⟨c,G⟩ k st) (stepC τ ⟨c',G⟩ k st):=fun k=>by
    unfold stepC
    cases hk:k.callee with
    | value f =>
      simp only [e1,e2]
      split
      · exact TLe.bind (h _ _ _) fun _=>TLe.refl _
      · exact TLe.refl _
    | builtin b =>
      simp only [e2]
      cases b <;> exact TLe.refl _
    | invoke r m=>exact TLe.refl _
  unfold step
  cases ho:o.op with
  | call k =>
    simp only
    split
    · exact loud k
    · exact quiet
  | slice t x lo hi mx =>
    simp only [e4]
    cases mx with
    | none =>
      simp only
      split
      · exact TLe.refl _
      · exact quiet
    | some m=>exact quiet
  | makeMap t r =>
    cases r with
    | none=>exact TLe.refl _
    | some r=>exact quiet
  | _ =>
    simp only [e1,e3,e4]
    first
      | exact TLe.refl _
      | exact quiet
theorem guard_leC {α:Type} {all:Array Oper} {st:St} {o:Oper} {r r' k:T α} (h:TLe r r'):TLe (guardV all st o r k) (guardV all st o r' k):=by
  have br:∀ b,TLe (T.br b r k) (T.br b r' k):=fun b=>by
    cases b with
    | true=>exact h
    | false=>exact TLe.refl _
  have br':∀ b,TLe (T.br b k r) (T.br b k r'):=fun b=>by
    cases b with
    | true=>exact TLe.refl _
    | false=>exact h
  unfold guardV
  split
  · exact h
  · split
    · split
      · split
        · split
          · exact br _
          · exact br' _
        · exact TLe.refl _
        · exact TLe.refl _
      · exact TLe.refl _
    · exact TLe.refl _
theorem runOp_leC (h:CLe c c') (all:Array Oper) (o:Oper) (st:St):TLe (runOp τ ⟨c,G⟩ all o st) (runOp τ ⟨c',G⟩ all o st) :=
  guard_leC (TLe.bind (step_leC h o st) fun _=>TLe.refl _)
theorem runOps_leC (h:CLe c c') (all:Array Oper):∀ (l:List Oper) (st:St),TLe (runOps τ ⟨c,G⟩ all l st) (runOps τ ⟨c',G⟩ all l st)
  | [],_=>TLe.refl _
  | o :: l,st=>TLe.bind (runOp_leC h all o st) fun st=>runOps_leC h all l st
theorem quietV_leC (h:CLe c c') (all:Array Oper) (o:Oper) (st:St):TLe (quietV τ ⟨c,G⟩ all o st) (quietV τ ⟨c',G⟩ all o st) :=
  guard_leC (stepQ_leC h o _)
theorem runQuiet_leC (h:CLe c c') (all:Array Oper):∀ (l:List Oper) (st:St),TLe (runQuiet τ ⟨c,G⟩ all l st) (runQuiet τ ⟨c',G⟩ all l st)
  | [],_=>TLe.refl _
  | o :: l,st=>TLe.bind (quietV_leC h all o st) fun v=>runQuiet_leC h all l _
theorem runLate_leC (h:CLe c c') (all:Array Oper):∀ (l:List Nat) (st:St),TLe (runLate τ ⟨c,G⟩ all l st) (runLate τ ⟨c',G⟩ all l st)
  | [],_=>TLe.refl _
  | q :: l,st=>by
    simp only [runLate]
    split
    · exact TLe.bind (quietV_leC h all _ st) fun v=>runLate_leC h all l _
    · exact TLe.refl _
theorem stableT_leC (h:CLe c c') (all:Array Oper):∀ (l:List Nat) (st:St),TLe (stableT τ ⟨c,G⟩ all l st) (stableT τ ⟨c',G⟩ all l st)
  | [],_=>TLe.refl _
  | q :: l,st=>by
    simp only [stableT]
    split
    · split
      · exact TLe.bind (quietV_leC h all _ st) fun v=>TLe.bind (TLe.refl _) fun _=>stableT_leC h all l st
      · exact TLe.refl _
    · exact TLe.refl _
theorem ev_same (st:St) (x:Operand):ev ⟨c,G⟩ st x = ev ⟨c',G⟩ st x:=by cases x <;> rfl
theorem seen_leC (st:St) (y:Operand):seen ⟨c,G⟩ st y = seen ⟨c',G⟩ st y:=by
  unfold seen
  rw [ev_same (c:=c) (c':=c')]
theorem seenB_leC (all:Array Oper) (st:St):seenB ⟨c,G⟩ all st = seenB ⟨c',G⟩ all st:=by
  funext q
  unfold seenB
  simp only [seen_leC (c:=c) (c':=c')]
theorem footB_leC (all:Array Oper) (o:Oper) (st:St):footB ⟨c,G⟩ all o st = footB ⟨c',G⟩ all o st:=by
  funext q
  unfold footB
  simp only [seen_leC (c:=c) (c':=c'),ev_same (c:=c) (c':=c')]
theorem pairT_leC (h:CLe c c') (all:Array Oper) (bf:Array Nat) (lts vs:List Nat) (i:Nat) (st:St):TLe (pairT τ ⟨c,G⟩ all bf lts vs i st) (pairT τ ⟨c',G⟩ all bf lts vs i st):=by
  unfold pairT
  split
  · split
    · rw [seenB_leC (c:=c) (c':=c')]
      exact TLe.bind (TLe.refl _) fun _=>TLe.bind (stableT_leC h all _ _) fun _=>TLe.bind (stableT_leC h all _ _) fun _=>TLe.bind (stableT_leC h all _ _) fun _=>TLe.refl _
    · exact TLe.refl _
  · exact TLe.refl _
theorem runChain_leC (h:CLe c c') (all:Array Oper) (bf:Array Nat) (lts vs ps sk:List Nat):∀ (l:List Oper) (i:Nat) (st:St),TLe (runChain τ ⟨c,G⟩ all bf lts vs ps sk i l st) (runChain τ ⟨c',G⟩ all bf lts vs ps sk i l st)
  | [],_,_=>TLe.refl _
  | o :: l,i,st=>by
    simp only [runChain]
    split
    · exact runChain_leC h all bf lts vs ps sk l _ st
    · split
      · exact TLe.bind (pairT_leC h all bf lts vs i st) fun st1=>runChain_leC h all bf lts vs ps sk l _ st1
      · rw [footB_leC (c:=c) (c':=c')]
        exact TLe.bind (TLe.refl _) fun _=>TLe.bind (runOp_leC h all o st) fun st1=>TLe.bind (stableT_leC h all _ st1) fun _=>runChain_leC h all bf lts vs ps sk l _ st1
theorem late_leC (h:CLe c c') (ops:Array Oper) (m:Nat) (es ls:List Nat) (st:St):TLe (lateRegion τ ⟨c,G⟩ ops m es ls st) (lateRegion τ ⟨c',G⟩ ops m es ls st):=by
  unfold lateRegion lateRegionP lateRest
  split
  · exact TLe.bind (runQuiet_leC h ops _ st) fun st=>TLe.bind (runLate_leC h ops ls st) fun st=>TLe.bind (TLe.refl _) fun _=>TLe.bind (stableT_leC h ops _ st) fun _=>TLe.bind (runChain_leC h ops _ _ _ _ _ _ _ st) fun _=>TLe.refl _
  · exact TLe.refl _
theorem evalC_leC {L L':Nat->(St->T (Ex × St))->St->T (Ex × St)} (h:CLe c c') (hL:LLe L L') :
    ∀ (k:Code) (id:Nat) (st:St),TLe (evalC τ ⟨c,L,G⟩ k id st) (evalC τ ⟨c',L',G⟩ k id st):=by
  intro k
  induction k with
  | skip=>intro id st; exact TLe.refl _
  | region i ops draw =>
    intro id st
    simp only [evalC]
    split
    · exact TLe.bind (runOps_leC h ops _ st) fun _=>TLe.refl _
    · split
      · split
        · split
          · exact TLe.bind (runQuiet_leC h ops _ st) fun st=>TLe.bind (runOps_leC h ops _ st) fun _=>TLe.refl _
          · exact TLe.refl _
        · exact late_leC h ops _ _ _ st
      · exact TLe.refl _
  | seq a b iha ihb =>
    intro id st
    refine TLe.bind (iha id st) fun r=>?_
    cases r.1 with
    | nm=>exact ihb id r.2
    | ex j=>exact TLe.refl _
    | rt=>exact TLe.refl _
  | cond x a b iha ihb =>
    intro id st
    have e1:=ev_leC (c:=c) (c':=c') (G:=G) st x
    show TLe (match ev ⟨c,G⟩ st x with | .val (.bool q)=>T.br q (evalC τ ⟨c,L,G⟩ a id st) (evalC τ ⟨c,L,G⟩ b id st) | _=>.fail) (match ev ⟨c',G⟩ st x with | .val (.bool q)=>T.br q (evalC τ ⟨c',L',G⟩ a id st) (evalC τ ⟨c',L',G⟩ b id st) | _=>.fail)
    rw [e1]
    split
    · rename_i q _
      cases q with
      | true=>exact iha id st
      | false=>exact ihb id st
    · exact TLe.refl _
  | block i c ih =>
    intro id st
    refine TLe.bind (ih i st) fun r=>?_
    cases r.1 with
    | nm=>exact TLe.refl _
    | ex j=>exact TLe.refl _
    | rt=>exact TLe.refl _
  | loop c ih =>
    intro id st
    exact hL id _ _ st (ih id)
  | exit i=>intro id st; exact TLe.refl _
  | ret=>intro id st; exact TLe.refl _
  | _=>intro id st; exact TLe.refl _
theorem evalF_leC {fn:Func} {vs:List V} {H:List Blk} {L L':Nat->(St->T (Ex × St))->St->T (Ex × St)} (h:CLe c c') (hL:LLe L L'):TLe (evalF τ ⟨c,L,G⟩ fn vs H) (evalF τ ⟨c',L',G⟩ fn vs H):=by
  unfold evalF
  cases fn.body with
  | none=>exact TLe.refl _
  | some k=>exact TLe.bind (evalC_leC h hL k 0 _) fun _=>TLe.refl _
theorem told_leC {fn:Func} {vs:List V} {L L':Nat->(St->T (Ex × St))->St->T (Ex × St)} (h:CLe c c') (hL:LLe L L'):TLe (finF (evalF τ ⟨c,L,G⟩ fn vs [])) (finF (evalF τ ⟨c',L',G⟩ fn vs [])) :=
  TLe.bind (evalF_leC h hL) fun _=>TLe.refl _
end
def onC (k:Nat) (p:List V->St->Bool) (r:V × Res) (c:FuncId->List V->St->T (V × Res)):FuncId->List V->St->T (V × Res) :=
  fun f vs st=>match Nat.beq f k with
    | true=>.br (p vs st) (.leaf r) .fail
    | false=>c f vs st
noncomputable def isC (c:FuncId->List V->St->T (V × Res)) (k:Nat) (r:V × Res):List V->St->Bool :=
  fun vs st=>@decide ((c k vs st).sem = some r) (Classical.propDecidable _)
theorem isC_true {c:FuncId->List V->St->T (V × Res)} {k:Nat} {r:V × Res} {vs:List V} {st:St} (h:(c k vs st).sem = some r):isC c k r vs st = true:=by
  unfold isC
  exact @decide_eq_true _ (Classical.propDecidable _) h
theorem onC_le {c' c:FuncId->List V->St->T (V × Res)} {k:Nat} {r:V × Res} (hc:CLe c' c):CLe (onC k (isC c k r) r c') c:=fun f vs st r' hr=>by
  unfold onC at hr
  cases hk:Nat.beq f k with
  | true =>
    rw [hk] at hr
    obtain ⟨h1,h2⟩:=sem_br_fail hr
    rw [sem_leaf h2]
    unfold isC at h1
    have h1:=@of_decide_eq_true _ (Classical.propDecidable _) h1
    rw [Nat.eq_of_beq_eq_true hk]
    exact h1
  | false =>
    rw [hk] at hr
    exact hc f vs st _ hr
end Go.Sy
