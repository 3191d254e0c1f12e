/-
  Loops gone through by rounds, each told by one fact. Conditions: as before.
-/
import Derived.Test.YtkcbdemfmjciiaaGreatDoorSyQ
namespace Go.Sy

/-- How a round ended, and what is kept of it. -/
def cutR (l : Lp) (r : Ex × St) : Ex × St :=
  match r.1 with
  | .nm => (.nm, cutS l.ks l.n r.2)
  | .ex i => (.ex i, cutS l.ke l.ne r.2)
  | .rt => (.rt, cutS l.ke l.ne r.2)

def roundT (f : St → T (Ex × St)) (l : Lp) (st : St) : Option (Ex × St) := ((f st).bind fun r => T.leaf (cutR l r)).sem

/-- The loop from a round's end on. -/
def goOn (f : St → T (Ex × St)) (l : Lp) (m : Nat) : Option (Ex × St) → Option (Ex × St)
  | some (.nm, st) => (iterT f l m st).sem
  | some (e, st) => some (e, st)
  | none => none

theorem iter_round {f : St → T (Ex × St)} {l : Lp} {m : Nat} {st : St} {t : Option (Ex × St)} (h : roundT f l st = t) : (iterT f l (m + 1) st).sem = goOn f l m t := by
  subst h
  show ((f st).bind _).sem = _
  unfold roundT
  rw [sem_bind, sem_bind]
  cases (f st).sem with
  | none => rfl
  | some r =>
    obtain ⟨e, s⟩ := r
    cases e <;> rfl

theorem goOn_nm {f : St → T (Ex × St)} {l : Lp} {m : Nat} {st : St} : goOn f l m (some (.nm, st)) = (iterT f l m st).sem := rfl
theorem goOn_ex {f : St → T (Ex × St)} {l : Lp} {m : Nat} {i : Nat} {st : St} : goOn f l m (some (.ex i, st)) = some (.ex i, st) := rfl
theorem goOn_rt {f : St → T (Ex × St)} {l : Lp} {m : Nat} {st : St} : goOn f l m (some (.rt, st)) = some (.rt, st) := rfl
theorem sel_true {α : Type} (x y : α) : sel true x y = x := rfl
theorem sel_false {α : Type} (x y : α) : sel false x y = y := rfl

/-! ### Loops of a function, told one after the other -/

/-- Whatever comes out of the one comes out of the other. -/
def TLe {α : Type} (t t' : T α) : Prop := ∀ r, t.sem = some r → t'.sem = some r

theorem TLe.refl {α : Type} (t : T α) : TLe t t := fun _ h => h

theorem TLe.bind {α β : Type} {t t' : T α} {f f' : α → T β} (h : TLe t t') (hf : ∀ a, TLe (f a) (f' a)) : TLe (t.bind f) (t'.bind f') := fun r hr => by
  obtain ⟨a, h1, h2⟩ := sem_bind_some hr
  rw [sem_bind, h a h1]
  exact hf a r h2

def LLe (M L : Nat → (St → T (Ex × St)) → St → T (Ex × St)) : Prop := ∀ id f f' st, (∀ st, TLe (f st) (f' st)) → TLe (M id f st) (L id f' st)

theorem iterT_le {f f' : St → T (Ex × St)} (h : ∀ st, TLe (f st) (f' st)) (l : Lp) : ∀ (m : Nat) (st : St), TLe (iterT f l m st) (iterT f' l m st)
  | 0, _ => TLe.refl _
  | m + 1, st => by
    refine TLe.bind (h st) fun r => ?_
    cases r.1 with
    | nm => exact iterT_le h l m _
    | ex i => exact TLe.refl _
    | rt => exact TLe.refl _

theorem loopsBy_le (ls : List (Nat × Lp)) : LLe (loopsBy ls) (loopsBy ls) := fun id f f' st h => by
  unfold loopsBy
  split
  · exact iterT_le h _ _ _
  · exact TLe.refl _

/-- One loop is told where a test says so, the others as before. -/
def onP (k : Nat) (p : (St → T (Ex × St)) → St → Bool) (r : Ex × St) (L : Nat → (St → T (Ex × St)) → St → T (Ex × St)) : Nat → (St → T (Ex × St)) → St → T (Ex × St) :=
  fun id f st => match Nat.beq id k with
    | true => .br (p f st) (.leaf r) .fail
    | false => L id f st

/-- The test: the loop does come to this. -/
noncomputable def isP (L : Nat → (St → T (Ex × St)) → St → T (Ex × St)) (k : Nat) (r : Ex × St) : (St → T (Ex × St)) → St → Bool :=
  fun f st => @decide ((L k f st).sem = some r) (Classical.propDecidable _)

theorem isP_true {L : Nat → (St → T (Ex × St)) → St → T (Ex × St)} {k : Nat} {r : Ex × St} {f : St → T (Ex × St)} {st : St} (h : (L k f st).sem = some r) : isP L k r f st = true := by
  unfold isP
  exact @decide_eq_true _ (Classical.propDecidable _) h

theorem onP_le {M L : Nat → (St → T (Ex × St)) → St → T (Ex × St)} {k : Nat} {r : Ex × St} (hM : LLe M L) (hL : LLe L L) : LLe (onP k (isP L k r) r M) L := fun id f f' st hf r' hr => by
  unfold onP at hr
  cases hk : Nat.beq id k with
  | true =>
    rw [hk] at hr
    obtain ⟨h1, h2⟩ := sem_br_fail hr
    rw [sem_leaf h2]
    unfold isP at h1
    have h1 := @of_decide_eq_true _ (Classical.propDecidable _) h1
    rw [Nat.eq_of_beq_eq_true hk]
    exact hL k f f' st hf _ h1
  | false =>
    rw [hk] at hr
    exact hM id f f' st hf _ hr

theorem evalC_le {τ : List Ty} {Γ : Cx} {L L' : Nat → (St → T (Ex × St)) → St → T (Ex × St)} (h : LLe L L') :
    ∀ (c : Code) (id : Nat) (st : St), TLe (evalC τ { Γ with loop := L } c id st) (evalC τ { Γ with loop := L' } c id st) := by
  intro c
  induction c with
  | skip => intro id st; exact TLe.refl _
  | region i ops draw => intro id st; exact TLe.refl _
  | seq a b iha ihb =>
    intro id st
    refine TLe.bind (iha id st) fun r => ?_
    cases r.1 with
    | nm => exact ihb id r.2
    | ex j => exact TLe.refl _
    | rt => exact TLe.refl _
  | cond x a b iha ihb =>
    intro id st
    show TLe (match ev ⟨Γ.call, Γ.glob⟩ st x with | .val (.bool q) => T.br q (evalC τ { Γ with loop := L } a id st) (evalC τ { Γ with loop := L } b id st) | _ => .fail) (match ev ⟨Γ.call, Γ.glob⟩ st x with | .val (.bool q) => T.br q (evalC τ { Γ with loop := L' } a id st) (evalC τ { Γ with loop := L' } b id st) | _ => .fail)
    split
    · rename_i q _
      cases q with
      | true => exact iha id st
      | false => exact ihb id st
    · exact TLe.refl _
  | block i c ih =>
    intro id st
    refine TLe.bind (ih i st) fun r => ?_
    cases r.1 with
    | nm => exact TLe.refl _
    | ex j => exact TLe.refl _
    | rt => exact TLe.refl _
  | loop c ih =>
    intro id st
    exact h id _ _ st (ih id)
  | exit i => intro id st; exact TLe.refl _
  | ret => intro id st; exact TLe.refl _
  | _ => intro id st; exact TLe.refl _

theorem told_le {τ : List Ty} {call : FuncId → List V → List Blk → T (V × List Blk)} {G : Nat → V} {fn : Func} {vs : List V} {L L' : Nat → (St → T (Ex × St)) → St → T (Ex × St)}
    (h : LLe L L') : TLe (finF (evalF τ ⟨call, L, G⟩ fn vs [])) (finF (evalF τ ⟨call, L', G⟩ fn vs [])) := by
  refine TLe.bind ?_ fun _ => TLe.refl _
  unfold evalF
  cases fn.body with
  | none => exact TLe.refl _
  | some c => exact TLe.bind (evalC_le (Γ := ⟨call, L, G⟩) h c 0 _) fun _ => TLe.refl _

/-- A round, by a tree that means no more. -/
theorem roundT_le {f f' : St → T (Ex × St)} {l : Lp} {st : St} {r : Ex × St} (h : TLe (f st) (f' st)) (hr : roundT f l st = some r) : roundT f' l st = some r := TLe.bind h (fun _ => TLe.refl _) r hr

/-! ### Empty rows said otherwise, ahead of a loop -/

/-- An empty row's elements may be said to be anything. -/
def fillB (v : V) : Blk → Blk
  | .row e s 0 _ => .row e s 0 fun _ => v
  | b => b

def fillH (h : List Blk) (id : Nat) (v : V) : List Blk :=
  match h[id]? with
  | some b => h.set id (fillB v b)
  | none => h

def fillS (st : St) : List (Nat × V) → St
  | [] => st
  | (id, v) :: l => fillS ⟨st.t, fillH st.h id v⟩ l

theorem LE_fill {Γ : Cx0} : ∀ (l : List (Nat × V)) (st : St), LE Γ st (fillS st l)
  | [], st => LE.refl st
  | (id, v) :: l, st => by
    refine LE.trans ?_ (LE_fill l _)
    unfold fillH
    cases hb : st.h[id]? with
    | none => exact LE.refl st
    | some b =>
      have same : st.h.set id b = st.h := by
        have hl := (List.getElem?_eq_some_iff.1 hb).1
        have := (List.getElem?_eq_some_iff.1 hb).2
        rw [← this, List.set_getElem_self]
      cases b with
      | row e s n g =>
        cases n with
        | zero => exact LE_row hb fun j hj => by omega
        | succ n =>
          show LE Γ st ⟨st.t, st.h.set id (.row e s (n + 1) g)⟩
          rw [same]
          exact LE.refl st
      | cells cs =>
        show LE Γ st ⟨st.t, st.h.set id (.cells cs)⟩
        rw [same]
        exact LE.refl st
      | imap t n get =>
        show LE Γ st ⟨st.t, st.h.set id (.imap t n get)⟩
        rw [same]
        exact LE.refl st
      | xrow lk e s n g =>
        show LE Γ st ⟨st.t, st.h.set id (.xrow lk e s n g)⟩
        rw [same]
        exact LE.refl st
      | dead =>
        show LE Γ st ⟨st.t, st.h.set id .dead⟩
        rw [same]
        exact LE.refl st

/-- Loops gone through round by round; ahead of each, empty rows said otherwise. -/
def loopsZ (zs : List (Nat × List (Nat × V))) (loops : List (Nat × Lp)) (id : Nat) (f : St → T (Ex × St)) (st : St) : T (Ex × St) :=
  match lookN id zs with
  | some l => loopsBy loops id f (fillS st l)
  | none => loopsBy loops id f st

theorem loopsZ_le (zs : List (Nat × List (Nat × V))) (ls : List (Nat × Lp)) : LLe (loopsZ zs ls) (loopsZ zs ls) := fun id f f' st h => by
  unfold loopsZ
  split
  · exact loopsBy_le ls id f f' _ h
  · exact loopsBy_le ls id f f' _ h

def cxZ (G : Nat → V) (tbl : List (Nat × (List V → T (V × List Blk)))) (zs : List (Nat × List (Nat × V))) (loops : List (Nat × Lp)) : Cx := ⟨callT tbl, loopsZ zs loops, G⟩

theorem cxZ_ok {P : Program} {G : Nat → V} {tbl : List (Nat × (List V → T (V × List Blk)))} (h : AllPure P G tbl) (zs : List (Nat × List (Nat × V))) (loops : List (Nat × Lp)) : CallOK P (cxZ G tbl zs loops).base ∧ LoopOK (cxZ G tbl zs loops) := by
  refine ⟨callT_ok rfl h, fun id f st r hr => ?_⟩
  have hr : (loopsZ zs loops id f st).sem = some r := hr
  have by' : ∀ st, (loopsBy loops id f st).sem = some r → ∃ l m, (iterT f l m st).sem = some r := fun st hr => by
    unfold loopsBy at hr
    split at hr
    · exact ⟨_, _, hr⟩
    · cases hr
  unfold loopsZ at hr
  split at hr
  · obtain ⟨l, m, h1⟩ := by' _ hr
    exact .weak (LE_fill _ _) (iterT_run h1)
  · obtain ⟨l, m, h1⟩ := by' _ hr
    exact iterT_run h1

end Go.Sy

