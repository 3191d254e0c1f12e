/-
  One operation of the evaluator is one operation of the model. Conditions: the table of types is the program's; callees do what the evaluator is told.
-/
import Derived.Test.YtkcbdemfmjciiaaGreatDoorSyJ
namespace Go.Sy

/-- A function with a body of its own. -/
def Enters (P : Program) (f : FuncId) : Prop := ∃ fn, P.funcs[f]? = some fn ∧ fn.name ≠ "runtime.NumGoroutine" ∧ fn.body.isSome = true

/-- A call comes to an end of which something holds: it is entered and left, or it is done here and now. -/
def Gives (P : Program) (f : FuncId) (cs : List Value) (w : World) (R : Ending → World → Prop) : Prop :=
  (Enters P f ∧ Calls P f cs.toArray w R) ∨ ∃ c w', (callFunc f cs.toArray).run P w = .ok (.value c) w' ∧ R (.returned c) w'

theorem Gives.mono {P : Program} {f : FuncId} {cs : List Value} {w : World} {R R' : Ending → World → Prop} (h : Gives P f cs w R) (hr : ∀ e w', R e w' → R' e w') : Gives P f cs w R' :=
  h.elim (fun h => .inl ⟨h.1, h.2.mono hr⟩) fun ⟨c, w', h1, h2⟩ => .inr ⟨c, w', h1, hr _ _ h2⟩

/-- The evaluator is told the truth about a callee. -/
def CallOK (P : Program) (Γ : Cx0) : Prop := ∀ f vs cs κ S h w v h', Good κ S h w → EnvOK Γ S w → VRs S w vs κ cs → (Γ.call f vs h).sem = some (v, h') →
  Gives P f cs w fun e w' => ∃ c κ' S', e = .returned c ∧ Good κ' S' (after h h') w' ∧ VR S' w' v κ' c ∧ Ext κ S h w κ' S' (after h h') w' ∧ ∀ id c, κ id = some c → κ' id = some c

section
variable {P : Program} {τ : List Ty} (hτ : TabOK P τ) {Γ : Cx0} {S : Nat → Prop} {w : World} {κ : Nat → Option Value} {st : St} {a : Act} {o : Oper}
  {K : Act → World → Prop} {Q : Exit → Act → World → Prop} {r : V × St}

theorem callFunc_run {f : FuncId} (h : Enters P f) (args : Array Value) (w : World) : (callFunc f args).run P w = .ok (.enter f args) w := by
  obtain ⟨fn, h1, h2, h3⟩ := h
  have h4 : fn.body.isNone = false := by
    cases hb : fn.body with
    | none => rw [hb] at h3; cases h3
    | some _ => rfl
  have h5 : (fn.name == "runtime.NumGoroutine") = false := by simpa using h2
  simp only [callFunc, Sem.run_bind, run_program, Result.andThen_ok, h1, h5, h4, Bool.false_eq_true, if_false, Sem.run_pure]

/-- What is asked of the way on from an operation that leaves the own memory as it is. -/
def PostQ (a : Act) (o : Oper) (κ : Nat → Option Value) (S : Nat → Prop) (h : List Blk) (w : World) (K : Act → World → Prop) (h' : List Blk) (v : V) : Prop :=
  ∀ κ' S' c w', Good κ' S' h' w' → VR S' w' v κ' c → Ext κ S h w κ' S' h' w' → (∀ id c, κ id = some c → κ' id = some c) → K (a.put o.dst c) w'

theorem same_postQ (hg : Good κ S st.h w) {v : V} (h : Same P a o S w κ v) (hp : PostQ a o κ S st.h w K st.h v) : o.wp P a w K Q := by
  obtain ⟨c, h1, h2⟩ := h
  unfold Oper.wp
  rw [h1]
  exact hp κ S c w hg h2 (Ext.refl _ _ _ _) (fun _ _ h => h)

theorem call_ok (hΓ : CallOK P Γ) (hg : Good κ S st.h w) (hE : EnvOK Γ S w) (ht : VRs S w st.t κ a.tmps.toList) {c : Call} {f : Operand} (ho : o.op = .call c) (hc : c.callee = .value f) {g : FuncId} {caps : List V}
    (hf : ev Γ st f = .fn g caps) {v : V} {h' : List Blk} (h1 : (Γ.call g (args Γ st c.args.toList ++ caps) st.h).sem = some (v, h')) (hp : PostQ a o κ S st.h w K (after st.h h') v) : o.wp P a w K Q := by
  have hfv := ev_ok hE ht f
  rw [hf] at hfv
  obtain ⟨ca, hfe, hcap⟩ := hfv
  have hargs : VRs S w (args Γ st c.args.toList ++ caps) κ (c.args.toList.map a.eval ++ ca) := (args_ok hE ht _).append hcap
  have harr : (c.args.toList.map a.eval ++ ca).toArray = #[] ++ c.args.map a.eval ++ ca.toArray := by
    apply Array.ext'
    simp
  rcases hΓ g _ _ κ S st.h w v h' hg hE hargs h1 with ⟨hen, hcalls⟩ | ⟨c0, w', hval, cv, κ', S', he, q1, q2, q3, q4⟩
  · have hrun : (execOp a.eval o).run P w = .ok (.enter g (c.args.toList.map a.eval ++ ca).toArray) w := by
      unfold execOp
      simp only [ho, resolve, hc, hfe, Deferred.ofValue, Sem.run_bind, Sem.run_pure, Result.andThen_ok, invoke, callFunc_run hen, harr]
    unfold Oper.wp
    rw [hrun]
    refine hcalls.mono ?_
    rintro e w' ⟨cv, κ', S', rfl, q1, q2, q3, q4⟩
    exact hp κ' S' cv w' q1 q2 q3 q4
  · cases he
    have hrun : (execOp a.eval o).run P w = .ok (.value c0) w' := by
      unfold execOp
      simp only [ho, resolve, hc, hfe, Deferred.ofValue, Sem.run_bind, Sem.run_pure, Result.andThen_ok, invoke, ← harr, hval]
    unfold Oper.wp
    rw [hrun]
    exact hp κ' S' c0 w' q1 q2 q3 q4

theorem run_bound {k : IntKind} {i : Int} {y : Nat} (code : BoundsCode) (h0 : 0 ≤ i) (h1 : i ≤ (y : Int)) : (Instr.sliceBound (.int k i) y code).run P w = .ok i.toNat w := by
  simp only [Instr.sliceBound, Sem.run_bind, run_asIntOf, Result.andThen_ok]
  rw [if_pos ⟨h0, h1⟩]
  rfl

theorem run_bounds (b : Bool) (len cap : Nat) (lo hi : Option (IntKind × Int)) (L H : Nat) (hh : ∀ p, hi = some p → 0 ≤ p.2 ∧ p.2 ≤ (cap : Int) ∧ H = p.2.toNat) (hn : hi = none → H = len)
    (hl : ∀ p, lo = some p → 0 ≤ p.2 ∧ p.2 ≤ (H : Int) ∧ L = p.2.toNat) (hln : lo = none → L = 0) :
    (Instr.sliceBounds b len cap (lo.map fun p => .int p.1 p.2) (hi.map fun p => .int p.1 p.2) none).run P w = .ok (L, H, cap) w := by
  cases hi with
  | none =>
    have hn := hn rfl
    subst hn
    cases lo with
    | none =>
      have hln := hln rfl
      subst hln
      rfl
    | some p =>
      obtain ⟨h1, h2, h3⟩ := hl p rfl
      subst h3
      simp only [Instr.sliceBounds, Option.map_some, Option.map_none, Sem.run_bind, Sem.run_pure, Result.andThen_ok, run_bound _ h1 h2]
  | some q =>
    obtain ⟨h4, h5, h6⟩ := hh q rfl
    subst h6
    cases lo with
    | none =>
      have hln := hln rfl
      subst hln
      simp only [Instr.sliceBounds, Option.map_some, Option.map_none, Sem.run_bind, Sem.run_pure, Result.andThen_ok, run_bound _ h4 h5]
    | some p =>
      obtain ⟨h1, h2, h3⟩ := hl p rfl
      subst h3
      simp only [Instr.sliceBounds, Option.map_some, Sem.run_bind, Sem.run_pure, Result.andThen_ok, run_bound _ h4 h5, run_bound _ h1 h2]

include hτ in
theorem slice_ok {t : Nat} {x : V} {lo hi : Option V} {cx : Value} {clo chi : Option Value} (hx : VR S w x κ cx)
    (hlo : ∀ v, lo = some v → ∃ c, clo = some c ∧ VR S w v κ c) (hlo' : lo = none → clo = none) (hhi : ∀ v, hi = some v → ∃ c, chi = some c ∧ VR S w v κ c) (hhi' : hi = none → chi = none)
    (hrun : (execOp a.eval o).run P w = ((Instr.sliceAt t cx clo chi none).run P w).andThen fun v w' => .ok (.value v) w')
    {r : V} (h : (sliceV τ t x lo hi).sem = some r) : Same P a o S w κ r := by
  unfold sliceV at h
  split at h
  · rename_i ty hty
    obtain ⟨_, d, _, hd, hk, _⟩ := hτ.info hty
    split at h
    · rename_i l hkk
      rw [hkk] at hk
      have := kOf_str hk.symm
      subst this
      have hcx := VR_str hx
      subst hcx
      have hsz : (⟨l.toArray⟩ : ByteArray).size = l.length := by simp [ByteArray.size]
      have hext : ∀ i j : Nat, (⟨l.toArray⟩ : ByteArray).extract i j = ⟨((l.take j).drop i).toArray⟩ := by
        intro i j
        apply ByteArray.ext
        apply Array.ext'
        simp [ByteArray.data_extract, List.drop_take]
      have fin : ∀ (plo phi : Option (IntKind × Int)) (L H : Nat), clo = plo.map (fun p => .int p.1 p.2) → chi = phi.map (fun p => .int p.1 p.2) →
          (∀ p, phi = some p → 0 ≤ p.2 ∧ p.2 ≤ (l.length : Int) ∧ H = p.2.toNat) → (phi = none → H = l.length) → (∀ p, plo = some p → 0 ≤ p.2 ∧ p.2 ≤ (H : Int) ∧ L = p.2.toNat) → (plo = none → L = 0) →
          r = .str ((l.take H).drop L) → Same P a o S w κ r := by
        intro plo phi L H e1 e2 b1 b2 b3 b4 hr
        rw [hr]
        refine ⟨.string ⟨((l.take H).drop L).toArray⟩, ?_, rfl⟩
        rw [hrun, e1, e2]
        have hb := run_bounds (P := P) (w := w) false l.length l.length plo phi L H b1 b2 b3 b4
        simp only [Instr.sliceAt, Sem.run_bind, run_underlying hd, Result.andThen_ok, Instr.slice, Option.isSome_none, Bool.false_eq_true, if_false, hsz, hb, Sem.run_pure, hext]
      split at h
      · refine fin none none 0 l.length (hlo' rfl) (hhi' rfl) (fun _ h => by cases h) (fun _ => rfl) (fun _ h => by cases h) (fun _ => rfl) ?_
        rw [sem_leaf h]; simp
      · rename_i k x
        obtain ⟨c1, hc1, hv1⟩ := hlo _ rfl
        obtain ⟨hb, h2⟩ := sem_br_fail h
        obtain ⟨hb1, hb2⟩ := band_ok hb
        have hb1 := ile_ok hb1
        have hb2 : x ≤ (l.length : Int) := ile_ok hb2
        refine fin (some (k, x)) none (toN x) l.length (by rw [hc1, VR_val hv1]; rfl) (hhi' rfl) (fun _ h => by cases h) (fun _ => rfl) (fun p hp => by cases hp; exact ⟨hb1, hb2, rfl⟩) (fun h => by cases h) ?_
        rw [sem_leaf h2]; simp [sdrop]
      · rename_i k x
        obtain ⟨c1, hc1, hv1⟩ := hhi _ rfl
        obtain ⟨hb, h2⟩ := sem_br_fail h
        obtain ⟨hb1, hb2⟩ := band_ok hb
        have hb1 := ile_ok hb1
        have hb2 : x ≤ (l.length : Int) := ile_ok hb2
        refine fin none (some (k, x)) 0 (toN x) (hlo' rfl) (by rw [hc1, VR_val hv1]; rfl) (fun p hp => by cases hp; exact ⟨hb1, hb2, rfl⟩) (fun h => by cases h) (fun _ h => by cases h) (fun _ => rfl) ?_
        rw [sem_leaf h2]; simp [stake]
      · rename_i k x k' y
        obtain ⟨c1, hc1, hv1⟩ := hlo _ rfl
        obtain ⟨c2, hc2, hv2⟩ := hhi _ rfl
        obtain ⟨hb, h2⟩ := sem_br_fail h
        obtain ⟨hb1, hb⟩ := band_ok hb
        obtain ⟨hb2, hb3⟩ := band_ok hb
        have hb1 := ile_ok hb1
        have hb2 := ile_ok hb2
        have hb3 : y ≤ (l.length : Int) := ile_ok hb3
        refine fin (some (k, x)) (some (k', y)) (toN x) (toN y) (by rw [hc1, VR_val hv1]; rfl) (by rw [hc2, VR_val hv2]; rfl) (fun p hp => by cases hp; exact ⟨by show 0 ≤ y; omega, hb3, rfl⟩) (fun h => by cases h)
          (fun p hp => by cases hp; exact ⟨hb1, by unfold toN; show x ≤ _; omega, rfl⟩) (fun h => by cases h) ?_
        rw [sem_leaf h2]; simp [stake, sdrop]
      · cases h
    · rename_i e s n g hkk
      rw [hkk] at hk
      have := kOf_sl hk.symm
      subst this
      obtain ⟨ay, cap, rfl, hcap, hel⟩ := hx
      split at h
      · rename_i te hte
        obtain ⟨ti, _, hti, _, _, hts, _⟩ := hτ.info hte
        split at h
        · rename_i hs
          have hs : s = ti.size := by rw [← hts]; exact Nat.eq_of_beq_eq_true hs
          have fin : ∀ (plo phi : Option (IntKind × Int)) (L H : Nat) (g' : Nat → V), clo = plo.map (fun p => .int p.1 p.2) → chi = phi.map (fun p => .int p.1 p.2) →
              (∀ p, phi = some p → 0 ≤ p.2 ∧ p.2 ≤ (n : Int) ∧ H = p.2.toNat) → (phi = none → H = n) → (∀ p, plo = some p → 0 ≤ p.2 ∧ p.2 ≤ (H : Int) ∧ L = p.2.toNat) → (plo = none → L = 0) →
              (∀ i, g' i = g (L + i)) → r = .sl s (H - L) g' → Same P a o S w κ r := by
            intro plo phi L H g' e1 e2 b1 b2 b3 b4 hg' hr
            have hHn : H ≤ n := by
              cases phi with
              | none => rw [b2 rfl]; exact Nat.le_refl _
              | some p => obtain ⟨q1, q2, q3⟩ := b1 p rfl; omega
            rw [hr]
            refine ⟨.slice (if cap = L then ay else ay.map (·.add (L * ti.size))) (H - L) (cap - L), ?_, ?_⟩
            · rw [hrun, e1, e2]
              have hb := run_bounds (P := P) (w := w) true n cap plo phi L H (fun p hp => by obtain ⟨q1, q2, q3⟩ := b1 p hp; exact ⟨q1, by omega, q3⟩) b2 b3 b4
              simp only [Instr.sliceAt, Sem.run_bind, run_underlying hd, Result.andThen_ok, Instr.slice, hb, run_sizeOf_info hti, Sem.run_pure]
            · refine ⟨_, _, rfl, by omega, ?_⟩
              by_cases hz : H - L = 0
              · exact .inl hz
              · right
                rcases hel with h0 | ⟨b, o', rfl, hel⟩
                · omega
                · refine ⟨b, o' + L * s, ?_, fun i hi => ?_⟩
                  · rw [if_neg (by omega), Option.map_some, addr_add, hs]
                  · obtain ⟨ci, q1, q2, q3, q4⟩ := hel (L + i) (by omega)
                    refine ⟨ci, by rw [hg']; exact q1, q2, q3, ?_⟩
                    rw [show o' + L * s + i * s = o' + (L + i) * s by rw [Nat.add_mul, Nat.add_assoc]]
                    exact q4
          split at h
          · refine fin none none 0 n g (hlo' rfl) (hhi' rfl) (fun _ h => by cases h) (fun _ => rfl) (fun _ h => by cases h) (fun _ => rfl) (fun i => by rw [Nat.zero_add]) ?_
            rw [sem_leaf h]; simp
          · rename_i k x
            obtain ⟨c1, hc1, hv1⟩ := hlo _ rfl
            obtain ⟨hb, h2⟩ := sem_br_fail h
            obtain ⟨hb1, hb2⟩ := band_ok hb
            have hb1 := ile_ok hb1
            have hb2 : x ≤ (n : Int) := ile_ok hb2
            exact fin (some (k, x)) none (toN x) n _ (by rw [hc1, VR_val hv1]; rfl) (hhi' rfl) (fun _ h => by cases h) (fun _ => rfl) (fun p hp => by cases hp; exact ⟨hb1, hb2, rfl⟩) (fun h => by cases h) (fun _ => rfl) (sem_leaf h2)
          · rename_i k x
            obtain ⟨c1, hc1, hv1⟩ := hhi _ rfl
            obtain ⟨hb, h2⟩ := sem_br_fail h
            obtain ⟨hb1, hb2⟩ := band_ok hb
            have hb1 := ile_ok hb1
            have hb2 : x ≤ (n : Int) := ile_ok hb2
            exact fin none (some (k, x)) 0 (toN x) _ (hlo' rfl) (by rw [hc1, VR_val hv1]; rfl) (fun p hp => by cases hp; exact ⟨hb1, hb2, rfl⟩) (fun h => by cases h) (fun _ h => by cases h) (fun _ => rfl) (fun i => by rw [Nat.zero_add]) (sem_leaf h2)
          · rename_i k x k' y
            obtain ⟨c1, hc1, hv1⟩ := hlo _ rfl
            obtain ⟨c2, hc2, hv2⟩ := hhi _ rfl
            obtain ⟨hb, h2⟩ := sem_br_fail h
            obtain ⟨hb1, hb⟩ := band_ok hb
            obtain ⟨hb2, hb3⟩ := band_ok hb
            have hb1 := ile_ok hb1
            have hb2 := ile_ok hb2
            have hb3 : y ≤ (n : Int) := ile_ok hb3
            exact fin (some (k, x)) (some (k', y)) (toN x) (toN y) _ (by rw [hc1, VR_val hv1]; rfl) (by rw [hc2, VR_val hv2]; rfl) (fun p hp => by cases hp; exact ⟨by show 0 ≤ y; omega, hb3, rfl⟩) (fun h => by cases h)
              (fun p hp => by cases hp; exact ⟨hb1, by unfold toN; show x ≤ _; omega, rfl⟩) (fun h => by cases h) (fun _ => rfl) (sem_leaf h2)
          · cases h
        · cases h
      · cases h
    · rename_i e s n m g hkk
      rw [hkk] at hk
      have := kOf_sl hk.symm
      subst this
      obtain ⟨ay, cap, rfl, hnm, hcap, hel⟩ := hx
      split at h
      · rename_i te hte
        obtain ⟨ti, _, hti, _, _, hts, _⟩ := hτ.info hte
        split at h
        · rename_i hs
          split at h
          · rename_i k x
            obtain ⟨c1, hc1, hv1⟩ := hhi _ rfl
            obtain ⟨hb, h2⟩ := sem_br_fail h
            obtain ⟨hb1, hb2⟩ := band_ok hb
            have hb1 := ile_ok hb1
            have hb2 : x ≤ (m : Int) := ile_ok hb2
            have htx : toN x = x.toNat := rfl
            have hr := sem_leaf h2
            subst hr
            refine ⟨.slice (if cap = 0 then ay else ay.map (·.add (0 * ti.size))) (toN x - 0) (cap - 0), ?_, ?_⟩
            · rw [hrun, show clo = (none : Option (IntKind × Int)).map (fun p => Value.int p.1 p.2) from hlo' rfl, show chi = (some (k, x)).map (fun p => Value.int p.1 p.2) by rw [hc1, VR_val hv1]; rfl]
              have hb := run_bounds (P := P) (w := w) true n cap none (some (k, x)) 0 (toN x) (fun p hp => by cases hp; exact ⟨hb1, by show x ≤ _; omega, rfl⟩) (fun h => by cases h) (fun _ h => by cases h) (fun _ => rfl)
              simp only [Instr.sliceAt, Sem.run_bind, run_underlying hd, Result.andThen_ok, Instr.slice, hb, run_sizeOf_info hti, Sem.run_pure]
            · refine ⟨_, _, rfl, by omega, ?_⟩
              by_cases hz : toN x = 0
              · exact .inl hz
              · right
                rcases hel with h0 | ⟨b, o', rfl, hel⟩
                · omega
                · refine ⟨b, o', ?_, fun i hi => hel i (by omega)⟩
                  rw [if_neg (by omega), Option.map_some, addr_add, Nat.zero_mul, Nat.add_zero]
          · cases h
        · cases h
      · cases h
    · cases h
  · cases h

end
end Go.Sy

