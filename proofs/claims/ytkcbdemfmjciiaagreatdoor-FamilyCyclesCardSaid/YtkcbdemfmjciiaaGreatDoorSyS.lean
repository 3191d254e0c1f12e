/-
  A function whose body is a scope with one label that is gone back to: its body as a loop, and why what the loop comes to is what the function comes to. Conditions: as before.
-/
import Derived.Test.YtkcbdemfmjciiaaGreatDoorSyQ
import Derived.ScopeJumps
namespace Go.Sy

/-- A jump to the label as a way out of block N; no loops inside. -/
def ungoto (l N : Nat) : Code → Code
  | .seq a b => .seq (ungoto l N a) (ungoto l N b)
  | .cond c a b => .cond c (ungoto l N a) (ungoto l N b)
  | .block i c => match Nat.beq i N with
    | true => .goto 0
    | false => .block i (ungoto l N c)
  | .label _ => .skip
  | .goto k => match Nat.beq k l with
    | true => .exit N
    | false => .goto k
  | .exit i => match Nat.beq i N with
    | true => .goto 0
    | false => .exit i
  | .loop _ => .goto 0
  | c => c

/-- One pass from the label, as a loop's round. -/
def passC (l N : Nat) (c : Code) : Code := .block N (.seq (ungoto l N c) .ret)

/-- The scope as a loop: what stands ahead of the label, then the passes. -/
def loopify (l N : Nat) : Code → Code
  | .seq a b => match a with
    | .label k => match Nat.beq k l with
      | true => .loop (passC l N b)
      | false => .goto 0
    | a => .seq a (loopify l N b)
  | _ => .goto 0

/-- What stands behind the label. -/
def behindL (l : Nat) : Code → Option Code
  | .seq a b => match a with
    | .label k => match Nat.beq k l with
      | true => some b
      | false => none
    | _ => behindL l b
  | _ => none

section
variable {P : Program} {τ : List Ty} (hτ : TabOK P τ) {Γ : Cx}

def exitJ (l N : Nat) : Ex → Exit
  | .ex i => match Nat.beq i N with
    | true => .goto l
    | false => .exit i
  | e => exitOf e

theorem exitJ_t {l N j : Nat} (h : Nat.beq j N = true) : exitJ l N (.ex j) = .goto l := by simp only [exitJ, h]
theorem exitJ_f {l N j : Nat} (h : Nat.beq j N = false) : exitJ l N (.ex j) = .exit j := by simp only [exitJ, h]

include hτ in
theorem jump_ok (hm : P.follows .mixedOrders = true) (hΓ : CallOK P Γ.base) (hΛ : LoopOK Γ) {l N : Nat} : ∀ (c : Code) (id : Nat) (st : St) (r : Ex × St) (κ : Nat → Option Value) (S : Nat → Prop) (a : Act) (w : World) (Q : Exit → Act → World → Prop),
    Rel Γ.base κ S st a w → (evalC τ Γ (ungoto l N c) id st).sem = some r → (∀ κ' S' a' w', Rel Γ.base κ' S' r.2 a' w' → Ext κ S st.h w κ' S' r.2.h w' → Q (exitJ l N r.1) a' w') → c.wp P Q a w := by
  intro c
  induction c with
  | skip =>
    intro id st r κ S a w Q hr h hw
    have := sem_leaf h
    subst this
    exact wp_skip (hw κ S a w hr (Ext.refl _ _ _ _))
  | region i ops draw =>
    intro id st r κ S a w Q hr h hw
    have hn : r.1 = .nm := by
      simp only [ungoto, evalC] at h
      split at h
      · obtain ⟨st', h1, h2⟩ := sem_bind_some h
        have := sem_leaf h2
        subst this
        rfl
      · split at h
        · split at h
          · obtain ⟨st1, h1, h3⟩ := sem_bind_some h
            obtain ⟨st', h4, h2⟩ := sem_bind_some h3
            have := sem_leaf h2
            subst this
            rfl
          · cases h
        · cases h
    refine code_ok (P := P) hτ hm hΓ hΛ (.region i ops draw) id st r κ S a w Q hr h fun κ' S' a' w' q1 q2 => ?_
    have := hw κ' S' a' w' q1 q2
    rw [hn] at this ⊢
    exact this
  | seq x y ihx ihy =>
    intro id st r κ S a w Q hr h hw
    obtain ⟨⟨e, st1⟩, h1, h2⟩ := sem_bind_some h
    refine wp_seq (ihx id st (e, st1) κ S a w _ hr h1 ?_)
    intro κ' S' a' w' hr' he'
    cases e with
    | nm => exact ihy id st1 r κ' S' a' w' Q hr' h2 fun κ'' S'' a'' w'' q1 q2 => hw κ'' S'' a'' w'' q1 (he'.trans q2)
    | ex j =>
      have := sem_leaf h2
      subst this
      have := hw κ' S' a' w' hr' he'
      revert this
      show Q (exitJ l N (.ex j)) a' w' → Exit.then _ Q (exitJ l N (.ex j)) a' w'
      cases hb : Nat.beq j N with
      | true => rw [exitJ_t hb]; exact fun h => h
      | false => rw [exitJ_f hb]; exact fun h => h
    | rt =>
      have := sem_leaf h2
      subst this
      exact hw κ' S' a' w' hr' he'
  | cond x t e iht ihe =>
    intro id st r κ S a w Q hr h hw
    simp only [ungoto, evalC] at h
    split at h
    · rename_i b hb
      have hx := ev_ok hr.env hr.tmps x
      rw [hb] at hx
      have hx := VR_val hx
      cases b with
      | false => exact wp_cond_false hx (ihe id st r κ S a w Q hr h hw)
      | true => exact wp_cond_true hx (iht id st r κ S a w Q hr h hw)
    · cases h
  | block i c ih =>
    intro id st r κ S a w Q hr h hw
    simp only [ungoto] at h
    split at h
    · cases h
    · rename_i hiN
      have hiN : i ≠ N := Nat.ne_of_beq_eq_false hiN
      obtain ⟨⟨e, st1⟩, h1, h2⟩ := sem_bind_some h
      refine wp_block (ih i st (e, st1) κ S a w _ hr h1 ?_)
      intro κ' S' a' w' hr' he'
      cases e with
      | nm =>
        have := sem_leaf h2
        subst this
        exact hw κ' S' a' w' hr' he'
      | ex j =>
        simp only at h2
        split at h2
        · rename_i hj
          have hj : j = i := Nat.eq_of_beq_eq_true hj
          have := sem_leaf h2
          subst this
          have hjN : Nat.beq j N = false := by
            cases hb : Nat.beq j N
            · rfl
            · exact absurd (hj ▸ Nat.eq_of_beq_eq_true hb) hiN
          show Exit.inBlock i Q (exitJ l N (.ex j)) a' w'
          rw [exitJ_f hjN]
          show (if j = i then Q .normal a' w' else Q (.exit j) a' w')
          rw [if_pos hj]
          exact hw κ' S' a' w' hr' he'
        · rename_i hj
          have hj : j ≠ i := Nat.ne_of_beq_eq_false hj
          have := sem_leaf h2
          subst this
          have := hw κ' S' a' w' hr' he'
          revert this
          show Q (exitJ l N (.ex j)) a' w' → Exit.inBlock i Q (exitJ l N (.ex j)) a' w'
          cases hb : Nat.beq j N with
          | true => rw [exitJ_t hb]; exact fun h => h
          | false =>
            rw [exitJ_f hb]
            intro h
            show (if j = i then Q .normal a' w' else Q (.exit j) a' w')
            rw [if_neg hj]
            exact h
      | rt =>
        have := sem_leaf h2
        subst this
        exact hw κ' S' a' w' hr' he'
  | exit i =>
    intro id st r κ S a w Q hr h hw
    simp only [ungoto] at h
    split at h
    · cases h
    · rename_i hi
      have := sem_leaf h
      subst this
      have := hw κ S a w hr (Ext.refl _ _ _ _)
      refine wp_exit ?_
      rw [exitJ_f hi] at this
      exact this
  | label k =>
    intro id st r κ S a w Q hr h hw
    have := sem_leaf h
    subst this
    exact wp_label (hw κ S a w hr (Ext.refl _ _ _ _))
  | goto k =>
    intro id st r κ S a w Q hr h hw
    simp only [ungoto] at h
    split at h
    · rename_i hk
      have hk : k = l := Nat.eq_of_beq_eq_true hk
      have := sem_leaf h
      subst this
      have := hw κ S a w hr (Ext.refl _ _ _ _)
      refine wp_goto ?_
      rw [exitJ_t (Nat.beq_refl N)] at this
      rw [hk]
      exact this
    · cases h
  | ret =>
    intro id st r κ S a w Q hr h hw
    have := sem_leaf h
    subst this
    exact wp_ret (hw κ S a w hr (Ext.refl _ _ _ _))
  | _ =>
    intro id st r κ S a w Q hr h hw
    cases h

include hτ in
/-- A pass: it jumps, or it leaves. -/
theorem pass_ok (hm : P.follows .mixedOrders = true) (hΓ : CallOK P Γ.base) (hΛ : LoopOK Γ) {l N : Nat} {d : Code} {id : Nat} {st st1 : St} {e : Ex} {κ : Nat → Option Value} {S : Nat → Prop} {a : Act} {w : World} {J : Act → World → Prop} {Q : Exit → Act → World → Prop}
    (hr : Rel Γ.base κ S st a w) (h : (evalC τ Γ (passC l N d) id st).sem = some (e, st1)) (hQ : ∀ a w, Q .ret a w → Q .normal a w)
    (hw : ∀ κ' S' a' w', Rel Γ.base κ' S' st1 a' w' → Ext κ S st.h w κ' S' st1.h w' → match e with | .nm => J a' w' | e => Q (exitOf e) a' w') : d.wp P (Exit.jump l J Q) a w := by
  obtain ⟨⟨e1, st2⟩, h1, h2⟩ := sem_bind_some h
  obtain ⟨⟨e0, st0⟩, h3, h4⟩ := sem_bind_some h1
  refine jump_ok (P := P) hτ hm hΓ hΛ d N st (e0, st0) κ S a w _ hr h3 fun κ' S' a' w' q1 q2 => ?_
  cases e0 with
  | nm =>
    have := sem_leaf h4
    simp only [Prod.mk.injEq] at this
    obtain ⟨rfl, rfl⟩ := this
    have := sem_leaf h2
    simp only [Prod.mk.injEq] at this
    obtain ⟨rfl, rfl⟩ := this
    exact hQ _ _ (hw κ' S' a' w' q1 q2)
  | rt =>
    have := sem_leaf h4
    simp only [Prod.mk.injEq] at this
    obtain ⟨rfl, rfl⟩ := this
    have := sem_leaf h2
    simp only [Prod.mk.injEq] at this
    obtain ⟨rfl, rfl⟩ := this
    exact hw κ' S' a' w' q1 q2
  | ex j =>
    have := sem_leaf h4
    simp only [Prod.mk.injEq] at this
    obtain ⟨rfl, rfl⟩ := this
    simp only at h2
    split at h2
    · rename_i hj
      have := sem_leaf h2
      simp only [Prod.mk.injEq] at this
      obtain ⟨rfl, rfl⟩ := this
      have := hw κ' S' a' w' q1 q2
      show Exit.jump l J Q (exitJ l N (.ex j)) a' w'
      rw [exitJ_t hj]
      exact ⟨rfl, this⟩
    · rename_i hj
      have := sem_leaf h2
      simp only [Prod.mk.injEq] at this
      obtain ⟨rfl, rfl⟩ := this
      have := hw κ' S' a' w' q1 q2
      show Exit.jump l J Q (exitJ l N (.ex j)) a' w'
      rw [exitJ_f hj]
      exact this

include hτ in
theorem key_ok (hm : P.follows .mixedOrders = true) (hΓ : CallOK P Γ.base) (hΛ : LoopOK Γ) {l N : Nat} {c d : Code} (hl : findLabel c l = some (.seq .skip d)) {id : Nat} {Q : Exit → Act → World → Prop} (hQ : ∀ a w, Q .ret a w → Q .normal a w) (b : Frame) (k : List Item) (cs : List Frame) :
    ∀ (st : St) (r : Ex × St), LoopRun Γ.base (fun st => evalC τ Γ (passC l N d) id st) st r → ∀ κ S a w, Rel Γ.base κ S st a w → WayX Γ κ S st.h w r Q →
      ∃ e a' w', Q e a' w' ∧ Arrives P (lone (b.at a (.code d :: .inScope c :: k)) cs w) b k cs e a' w' := by
  have hg : gotoIn l (.inScope c :: k) = some (.code (.seq .skip d) :: .inScope c :: k) := by simp [gotoIn, hl]
  intro st r hrun
  induction hrun with
  | stop h1 hne hle =>
    rename_i st st1 st2 e
    intro κ S a w hr hw
    obtain ⟨e', a₁, w₁, hq, harr⟩ := pass_ok (P := P) hτ hm hΓ hΛ (J := fun _ _ => False) hr h1 hQ (fun κ' S' a' w' hr' he' => by
      obtain ⟨κ2, S2, hr2, he2⟩ := hle κ' S' a' w' hr'
      have := hw κ2 S2 a' w' hr2 (he'.trans he2)
      cases e with
      | nm => exact absurd rfl hne
      | ex j => exact this
      | rt => exact this) b (.inScope c :: k) cs
    cases e' with
    | normal => exact ⟨.normal, a₁, w₁, hq, Steps.trans harr (.one step_inScope)⟩
    | exit id => exact ⟨.exit id, a₁, w₁, hq, fun k' hk => harr k' (by simp [exitTo, hk])⟩
    | goto l' => exact hq.2.elim
    | ret => exact ⟨_, a₁, w₁, hq, harr⟩
    | panic ch => exact ⟨_, a₁, w₁, hq, harr⟩
    | outgrown => exact ⟨_, a₁, w₁, hq, harr⟩
  | next h1 hle _ ihr =>
    rename_i st st1 st2 r _
    intro κ S a w hr hw
    obtain ⟨e', a₁, w₁, hq, harr⟩ := pass_ok (P := P) hτ hm hΓ hΛ (Q := fun _ _ _ => False) (J := fun a' w' => ∃ κ' S', Rel Γ.base κ' S' st2 a' w' ∧ Ext κ S st.h w κ' S' st2.h w') hr h1 (fun _ _ h => h) (fun κ' S' a' w' hr' he' => by
      obtain ⟨κ2, S2, hr2, he2⟩ := hle κ' S' a' w' hr'
      exact ⟨κ2, S2, hr2, he'.trans he2⟩) b (.inScope c :: k) cs
    cases e' with
    | goto l' =>
      obtain ⟨rfl, κ2, S2, hr2, he2⟩ := hq
      obtain ⟨e₂, a₂, w₂, hq₂, harr₂⟩ := ihr κ2 S2 a₁ w₁ hr2 (hw.ext he2)
      exact ⟨e₂, a₂, w₂, hq₂, .of_steps (Steps.trans (harr _ hg) (.head step_seq (.one step_skip))) harr₂⟩
    | normal => exact hq.elim
    | exit id => exact hq.elim
    | ret => exact hq.elim
    | panic ch => exact hq.elim
    | outgrown => exact hq.elim
  | weak hle _ ihr =>
    intro κ S a w hr hw
    obtain ⟨κ2, S2, hr2, he2⟩ := hle κ S a w hr
    exact ihr κ2 S2 a w hr2 (hw.ext he2)

include hτ in
theorem loopify_ok (hm : P.follows .mixedOrders = true) (hΓ : CallOK P Γ.base) (hΛ : LoopOK Γ) {l N : Nat} {c0 d : Code} (hl : findLabel c0 l = some (.seq .skip d)) {Q : Exit → Act → World → Prop} (hQ : ∀ a w, Q .ret a w → Q .normal a w) (b : Frame) (k : List Item) (cs : List Frame) :
    ∀ (c : Code) (id : Nat) (st : St) (r : Ex × St) (κ : Nat → Option Value) (S : Nat → Prop) (a : Act) (w : World), behindL l c = some d → Rel Γ.base κ S st a w → (evalC τ Γ (loopify l N c) id st).sem = some r → WayX Γ κ S st.h w r Q →
      ∃ e a' w', Q e a' w' ∧ Arrives P (lone (b.at a (.code c :: .inScope c0 :: k)) cs w) b k cs e a' w' := by
  intro c
  induction c with
  | seq x y _ ih =>
    intro id st r κ S a w hd hr h hw
    have plain : behindL l y = some d → (evalC τ Γ (.seq x (loopify l N y)) id st).sem = some r → ∃ e a' w', Q e a' w' ∧ Arrives P (lone (b.at a (.code (.seq x y) :: .inScope c0 :: k)) cs w) b k cs e a' w' := by
      intro hd h
      obtain ⟨⟨e, st1⟩, h1, h2⟩ := sem_bind_some h
      obtain ⟨e', a₁, w₁, hq, harr⟩ := code_ok (P := P) hτ hm hΓ hΛ x id st (e, st1) κ S a w (fun e' a' w' => e' = exitOf e ∧ ∃ κ' S', Rel Γ.base κ' S' st1 a' w' ∧ Ext κ S st.h w κ' S' st1.h w') hr h1 (fun κ' S' a' w' q1 q2 => ⟨rfl, κ', S', q1, q2⟩) b (.code y :: .inScope c0 :: k) cs
      obtain ⟨rfl, κ2, S2, hr2, he2⟩ := hq
      cases e with
      | nm =>
        obtain ⟨e₂, a₂, w₂, hq₂, harr₂⟩ := ih id st1 r κ2 S2 a₁ w₁ hd hr2 h2 (hw.ext he2)
        exact ⟨e₂, a₂, w₂, hq₂, .of_steps (.head step_seq harr) harr₂⟩
      | ex j =>
        have := sem_leaf h2
        subst this
        exact ⟨.exit j, a₁, w₁, hw κ2 S2 a₁ w₁ hr2 he2, fun k' hk => .head step_seq (harr k' (by simp [exitTo, hk]))⟩
      | rt =>
        have := sem_leaf h2
        subst this
        exact ⟨.ret, a₁, w₁, hw κ2 S2 a₁ w₁ hr2 he2, .of_steps (.one step_seq) harr⟩
    cases x with
    | label j =>
      simp only [behindL] at hd
      simp only [loopify] at h
      split at hd
      · rename_i hj
        rw [hj] at h
        simp only [Option.some.injEq] at hd
        subst hd
        have hrun : LoopRun Γ.base (fun st => evalC τ Γ (passC l N y) id st) st r := hΛ _ _ _ _ h
        obtain ⟨e₂, a₂, w₂, hq₂, harr₂⟩ := key_ok (P := P) hτ hm hΓ hΛ hl hQ b k cs st r hrun κ S a w hr hw
        exact ⟨e₂, a₂, w₂, hq₂, .of_steps (.head step_seq (.one step_label)) harr₂⟩
      · cases hd
    | _ => exact plain hd h
  | _ =>
    intro id st r κ S a w hd
    cases hd

include hτ in
theorem scope_ok (hm : P.follows .mixedOrders = true) (hΓ : CallOK P Γ.base) (hΛ : LoopOK Γ) {l N : Nat} {c d : Code} (hl : findLabel c l = some (.seq .skip d)) (hd : behindL l c = some d) {id : Nat} {st : St} {r : Ex × St} {κ : Nat → Option Value} {S : Nat → Prop} {a : Act} {w : World} {Q : Exit → Act → World → Prop}
    (hQ : ∀ a w, Q .ret a w → Q .normal a w) (hr : Rel Γ.base κ S st a w) (h : (evalC τ Γ (loopify l N c) id st).sem = some r) (hw : WayX Γ κ S st.h w r Q) : (Code.scope c).wp P Q a w := by
  intro b k cs
  obtain ⟨e₂, a₂, w₂, hq₂, harr₂⟩ := loopify_ok (P := P) hτ hm hΓ hΛ hl hQ b k cs c id st r κ S a w hd hr h hw
  exact ⟨e₂, a₂, w₂, hq₂, .of_steps (.one step_scope) harr₂⟩

/-- The function with another body. -/
def withBody (fn : Func) (c : Code) : Func := { fn with body := some c }

include hτ in
theorem evalG_ok (hm : P.follows .mixedOrders = true) (hΓ : CallOK P Γ.base) (hΛ : LoopOK Γ) {l N : Nat} {f : FuncId} {fn : Func} {p c d : Code} (hf : P.funcs[f]? = some fn) (hb : fn.body = some (.seq p (.scope c))) (hl : findLabel c l = some (.seq .skip d)) (hd : behindL l c = some d)
    {κ : Nat → Option Value} {S : Nat → Prop} {h : List Blk} {w : World} {vs : List V} {cs : List Value} {v : V} {h' : List Blk}
    (hg : Good κ S h w) (hE : EnvOK Γ.base S w) (hv : VRs S w vs κ cs) (he : (evalF τ Γ (withBody fn (.seq p (loopify l N c))) vs h).sem = some (v, h')) :
    Calls P f cs.toArray w fun e w' => ∃ c κ' S', e = .returned c ∧ Good κ' S' h' w' ∧ VR S' w' v κ' c ∧ Ext κ S h w κ' S' h' w' := by
  unfold evalF at he
  obtain ⟨⟨e, st⟩, h1, h2⟩ := sem_bind_some he
  refine calls_of_wp hf hb ?_
  have hlen := hv.length
  have hr : Rel Γ.base κ S ⟨vs ++ undefs (Nat.sub fn.ntmps vs.length), h⟩ { tmps := cs.toArray ++ Array.replicate (fn.ntmps - cs.toArray.size) undef, defers := [] } w := by
    refine ⟨hg, hE, ?_, rfl⟩
    have := hv.append (undefs_ok (S := S) (w := w) (κ := κ) (Nat.sub fn.ntmps vs.length))
    have e2 : Nat.sub fn.ntmps vs.length = fn.ntmps - cs.length := by rw [hlen]; rfl
    rw [e2] at this ⊢
    simpa using this
  have fin : ∀ κ' S' a' w', Rel Γ.base κ' S' st a' w' → Ext κ S h w κ' S' st.h w' → resultV τ fn st = some v → st.h = h' → a'.defers = [] ∧ ∃ u, (results fn a'.tmps).run P w' = .ok u w' ∧ ∃ c κ' S', (Ending.returned u) = .returned c ∧ Good κ' S' h' w' ∧ VR S' w' v κ' c ∧ Ext κ S h w κ' S' h' w' := by
    intro κ' S' a' w' hr' he' q1 q2
    subst q2
    obtain ⟨u, q3, q4⟩ := result_ok (P := P) hτ hr' q1
    exact ⟨hr'.defers, u, q3, u, κ', S', rfl, hr'.good, q4, he'⟩
  obtain ⟨⟨e1, st1⟩, h3, h4⟩ := sem_bind_some h1
  refine wp_seq (code_ok (P := P) hτ hm hΓ hΛ p 0 _ (e1, st1) κ S _ w _ hr h3 ?_)
  intro κ1 S1 a1 w1 hr1 he1
  have last : (e, st) = (e, st) → ∀ κ' S' a' w', Rel Γ.base κ' S' st a' w' → Ext κ S h w κ' S' st.h w' → (bodyPost P fn fun e w' => ∃ c κ' S', e = .returned c ∧ Good κ' S' h' w' ∧ VR S' w' v κ' c ∧ Ext κ S h w κ' S' h' w') (exitOf e) a' w' := by
    intro _ κ' S' a' w' hr' he'
    cases e with
    | ex j => cases h2
    | nm =>
      simp only at h2
      split at h2
      · rename_i u hu
        have := sem_leaf h2
        simp only [Prod.mk.injEq] at this
        obtain ⟨rfl, rfl⟩ := this
        exact fin κ' S' a' w' hr' he' hu rfl
      · cases h2
    | rt =>
      simp only at h2
      split at h2
      · rename_i u hu
        have := sem_leaf h2
        simp only [Prod.mk.injEq] at this
        obtain ⟨rfl, rfl⟩ := this
        exact fin κ' S' a' w' hr' he' hu rfl
      · cases h2
  cases e1 with
  | ex j =>
    have := sem_leaf h4
    simp only [Prod.mk.injEq] at this
    obtain ⟨rfl, rfl⟩ := this
    exact last rfl κ1 S1 a1 w1 hr1 he1
  | rt =>
    have := sem_leaf h4
    simp only [Prod.mk.injEq] at this
    obtain ⟨rfl, rfl⟩ := this
    exact last rfl κ1 S1 a1 w1 hr1 he1
  | nm => exact scope_ok (P := P) hτ hm hΓ hΛ hl hd (fun _ _ h => h) hr1 h4 fun κ' S' a' w' hr' he' => last rfl κ' S' a' w' hr' (he1.trans he')

end

theorem pureG_of_eval {P : Program} {τ : List Ty} (hτ : TabOK P τ) (hm : P.follows .mixedOrders = true) {Γ : Cx} (hΓ : CallOK P Γ.base) (hΛ : LoopOK Γ) {l N : Nat} {f : FuncId} {fn : Func} {p c d : Code} (hf : P.funcs[f]? = some fn)
    (hb : fn.body = some (.seq p (.scope c))) (hl : findLabel c l = some (.seq .skip d)) (hd : behindL l c = some d) (hn : fn.name ≠ "runtime.NumGoroutine") : PureC P Γ.glob f fun vs => finF (evalF τ Γ (withBody fn (.seq p (loopify l N c))) vs []) := by
  refine ⟨⟨fn, hf, hn, by rw [hb]; rfl⟩, fun vs cs S w v h' hS hE hv he => ?_⟩
  obtain ⟨⟨v1, h1⟩, q1, q2⟩ := sem_bind_some he
  have q2 := sem_ofOpt q2
  refine ⟨pack_rows q2, (evalG_ok (P := P) hτ hm hΓ hΛ hf hb hl hd (Good.empty hS) hE hv q1).mono ?_⟩
  rintro e w' ⟨u, κ', S', rfl, g1, g2, g3⟩
  obtain ⟨κ2, p1, p2, p3⟩ := pack_ok g1 g2 q2
  refine ⟨u, κ2, S', rfl, p1, p2, Ext.ofNil g3.os g3.tape g3.output g3.size g3.keep (fun i b hb => ?_) g3.sub g3.sup (pack_rows q2)⟩
  obtain ⟨j, hj⟩ := p3 i b hb
  exact g3.own j b hj

/-- The function with its scope as a loop. -/
def gotoF (l N : Nat) (fn : Func) : Func :=
  match fn.body with
  | some (.seq p (.scope c)) => withBody fn (.seq p (loopify l N c))
  | _ => fn

theorem pureG_intro {P : Program} {τ : List Ty} (hτ : TabOK P τ) (hm : P.follows .mixedOrders = true) {f : FuncId} {fn : Func} (hf : P.funcs[f]? = some fn) (l N : Nat) {p c d : Code}
    (hb : fn.body = some (.seq p (.scope c))) (hd : behindL l c = some d) (hl : findLabel c l = some (.seq .skip d)) (hn : (fn.name == "runtime.NumGoroutine") = false) {G : Nat → V} {F : List V → T (V × List Blk)}
    (h : ∀ vs v h', (F vs).sem = some (v, h') → ∃ vs' Γ h'', ArgLE vs vs' ∧ Γ.glob = G ∧ CallOK P Γ.base ∧ LoopOK Γ ∧ (finF (evalF τ Γ (gotoF l N fn) vs' [])).sem = some (v, h'') ∧ RowsLE h'' h') : PureC P G f F := by
  have hn : fn.name ≠ "runtime.NumGoroutine" := by simpa using hn
  have hF : gotoF l N fn = withBody fn (.seq p (loopify l N c)) := by
    unfold gotoF
    simp only [hb]
  refine ⟨⟨fn, hf, hn, by rw [hb]; rfl⟩, fun vs cs S w v h' hS hE hv he => ?_⟩
  obtain ⟨vs', Γ, h'', h1, h2, h3, hΛ, h4, h5⟩ := h vs v h' he
  subst h2
  rw [hF] at h4
  obtain ⟨hr, hc⟩ := (pureG_of_eval hτ hm h3 hΛ hf hb hl hd hn).2 vs' cs S w v h'' hS hE (h1 S w cs hv) h4
  refine ⟨h5.rows hr, hc.mono ?_⟩
  rintro e w' ⟨u, κ', S', rfl, g1, g2, g3⟩
  obtain ⟨p1, p2⟩ := h5.good hr g1
  refine ⟨u, κ', S', rfl, p1, g2, Ext.ofNil g3.os g3.tape g3.output g3.size g3.keep (fun i b hb => ?_) g3.sub g3.sup (h5.rows hr)⟩
  rw [p2] at hb
  exact g3.own i b hb

end Go.Sy

