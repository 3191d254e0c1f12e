/-
  One operation of the evaluator is one operation of the model: all of them. Conditions: the table of types is the program's; callees do what the evaluator is told.
-/
import Derived.Test.YtkcbdemfmjciiaaGreatDoorSyKa
namespace Go.Sy

section
variable {P : Program} {τ : List Ty} (hτ : TabOK P τ) {Γ : Cx0} {S : Nat → Prop} {w : World} {κ : Nat → Option Value} {st : St} {a : Act} {o : Oper}
  {K : Act → World → Prop} {Q : Exit → Act → World → Prop} {r : V × St}

theorem dense_ok {size : Nat} : ∀ {ps : List (Nat × V)} {cps : List (Nat × Value)} {els : List V} {k : Nat} {arr : Array Value}, denseV k ps = some els → PartsR S w κ ps cps →
    elemsOK size els = true → (k + els.length) * size ≤ arr.size → ∃ arr', Instr.fill (fun i => some (i * size, size)) arr cps = some arr' ∧ arr'.size = arr.size ∧
      (∀ p, p < k * size → arr'[p]? = arr[p]?) ∧
      (∀ i v, els[i]? = some v → ∃ c, VR S w v noK c ∧ c.cells.size = size ∧ (∀ u ∈ c.cells.toList, u.oneCell' = true) ∧ ∀ j, j < size → arr'[(k + i) * size + j]? = c.cells[j]?)
  | [], _, els, k, arr, h, hp, _, _ => by
    cases hp
    simp [denseV] at h
    subst h
    exact ⟨arr, rfl, rfl, fun _ _ => rfl, fun i v hv => by simp at hv⟩
  | (i0, v) :: rest, _, els, k, arr, h, hp, he, hs => by
    cases hp with
    | cons hv hrest =>
      rename_i c m
      simp only [denseV] at h
      split at h
      · rename_i vs hi hd
        simp at h
        subst h
        have hi : i0 = k := Nat.eq_of_beq_eq_true hi
        subst hi
        simp only [elemsOK] at he
        split at he
        · rename_i cs hcs
          split at he
          · rename_i h1 h2
            have h1 : cs.length = size := Nat.eq_of_beq_eq_true h1
            obtain ⟨hr, hone⟩ := VR_cells hcs hv
            have hsz : c.cells.size = size := by rw [← h1, ← hr.length]; simp
            simp only [List.length_cons] at hs
            have hle : i0 * size + c.cells.size ≤ arr.size := by
              have : (i0 + 1) * size ≤ (i0 + (vs.length + 1)) * size := Nat.mul_le_mul_right _ (by omega)
              rw [Nat.add_mul] at this
              omega
            have hf := fold_set_arr (i0 * size) c.cells arr hle
            have hget : ∀ p, (c.cells.zipIdx.foldl (fun cs (cj : Value × Nat) => cs.setIfInBounds (i0 * size + cj.2) cj.1) arr)[p]? =
                if i0 * size ≤ p ∧ p < i0 * size + size then c.cells[p - i0 * size]? else arr[p]? := by
              intro p
              rw [← Array.getElem?_toList, hf]
              have := getElem?_splice arr.toList c.cells.toList (i0 * size) p (by simpa using hle)
              simp only [Array.length_toList, hsz, Array.getElem?_toList] at this
              rw [hsz]
              exact this
            have hsz1 : (c.cells.zipIdx.foldl (fun cs (cj : Value × Nat) => cs.setIfInBounds (i0 * size + cj.2) cj.1) arr).size = arr.size := by
              rw [← Array.length_toList, hf]
              simp only [List.length_append, List.length_take, List.length_drop, Array.length_toList]
              omega
            obtain ⟨arr', q1, q2, q3, q4⟩ := dense_ok (k := Nat.succ i0) (arr := c.cells.zipIdx.foldl (fun cs (cj : Value × Nat) => cs.setIfInBounds (i0 * size + cj.2) cj.1) arr) hd hrest he
              (by rw [hsz1, show Nat.succ i0 + vs.length = i0 + (vs.length + 1) by omega]; exact hs)
            refine ⟨arr', ?_, by rw [q2, hsz1], ?_, ?_⟩
            · have hcond : ¬ (c.cells.size ≠ size || decide (i0 * size + c.cells.size > arr.size)) = true := by
                simp [hsz]
                omega
              simp only [Instr.fill]
              rw [if_neg hcond]
              exact q1
            · intro p hp
              rw [q3 p (by rw [Nat.succ_mul]; omega), hget, if_neg (by omega)]
            · intro i v' hv'
              cases i with
              | zero =>
                simp at hv'
                subst hv'
                refine ⟨c, VR_free _ _ h2 hv, hsz, hone, fun j hj => ?_⟩
                rw [Nat.add_zero, q3 _ (by rw [Nat.succ_mul]; omega), hget, if_pos (by omega)]
                congr 1
                omega
              | succ i =>
                obtain ⟨c', z1, z2, z3, z4⟩ := q4 i v' (by simpa using hv')
                refine ⟨c', z1, z2, z3, fun j hj => ?_⟩
                rw [← z4 j hj]
                rw [show i0.succ + i = i0 + (i + 1) by omega]
          · cases he
        · cases he
      · cases h

theorem pickV_eq : ∀ (l : List V) (i : Nat), i < l.length → pickV l i = nth l i
  | [], _, h => by simp at h
  | [v], i, h => by
    have : i = 0 := by simpa using h
    subst this
    rfl
  | v :: u :: l, 0, _ => by
    rw [pickV, leafIf_eq]
    · rfl
    · simp
  | v :: u :: l, i + 1, h => by
    rw [pickV, leafIf_eq]
    · show (bif Nat.beq (i + 1) 0 then v else pickV (u :: l) (i + 1 - 1)) = nth (u :: l) i
      rw [Nat.add_sub_cancel, pickV_eq (u :: l) i (by simpa using h)]
      rfl
    · simp

theorem litRow_eq {len : Nat} {els : List V} {i : Nat} (h : i < els.length) : litRow len els i = nth els i := by
  unfold litRow
  cases litAll len els with
  | false => rfl
  | true => exact pickV_eq els i h

include hτ in
theorem buildSlice_ok (hg : Good κ S st.h w) (hE : EnvOK Γ S w) (ht : VRs S w st.t κ a.tmps.toList) {t len : Nat} {parts : Array (Nat × Operand)} (ho : o.op = .buildSlice t len parts)
    (h : (step τ Γ o st).sem = some r) (hp : Post a o κ S st w K r) : o.wp P a w K Q := by
  have hrun : (execOp a.eval o).run P w = ((Instr.buildSlice t len (parts.map fun (i, x) => (i, a.eval x))).run P w).andThen fun v w' => .ok (.value v) w' := by
    unfold execOp
    simp only [ho, Sem.run_bind, Sem.run_pure]
  unfold step at h
  simp only [ho] at h
  split at h
  · rename_i ts hts
    obtain ⟨_, d, _, hd, hk, _⟩ := hτ.info hts
    split at h
    · rename_i e hkk
      rw [hkk] at hk
      have := kOf_sl hk.symm
      subst this
      split at h
      · rename_i te hte
        obtain ⟨i, _, hi, _, _, hs, _, hz, _⟩ := hτ.info hte
        split at h
        · rename_i els hels
          split at h
          · rename_i zc e1 e2 e3 e4 hzc
            split at h
            · rename_i e5
              have e2 : els.length = len := Nat.eq_of_beq_eq_true e2
              have e3 : len * te.size ≤ 16777216 := by simpa using e3
              have e4 : 0 < te.size := by simpa using e4
              have e5 : zc.length = te.size := Nat.eq_of_beq_eq_true e5
              obtain ⟨z, hzi, hzz⟩ : ∃ z, i.zero = some z ∧ te.zero = ofValue z := by
                cases hzz : i.zero with
                | none => rw [hzz] at hz; rw [hz] at hzc; simp [V.cells] at hzc
                | some z => rw [hzz] at hz; exact ⟨z, rfl, hz⟩
              have hzl : z.cells.size = te.size := by
                rw [← e5, ← (VR_cells (S := S) (w := w) (κ := noK) hzc (by rw [hzz]; exact VR_ofValue z)).1.length]
                simp
              have hpr : PartsR S w κ (evs Γ st parts.toList) (parts.map fun (i, x) => (i, a.eval x)).toList := by
                have := evs_ok hE ht parts.toList
                simpa using this
              -- the zeros under it
              obtain ⟨zs, hzs, hrun0⟩ : ∃ zs : Array Value, zs.size = len * te.size ∧ ∀ arr', Instr.fill (fun i => some (i * te.size, te.size)) zs (parts.map fun (i, x) => (i, a.eval x)).toList = some arr' →
                  (Instr.buildSlice t len (parts.map fun (i, x) => (i, a.eval x))).run P w = .ok (.slice (some ⟨w.heap.size, 0, none⟩) len len) (w.alloc (.cells arr' e)) := by
                by_cases h0 : len * te.size = 0
                · refine ⟨(Array.range (len * te.size)).map fun j => (#[] : Array Value)[j % (#[] : Array Value).size]!, by simp, fun arr' hf => ?_⟩
                  rw [hs] at h0 hf e3
                  simp only [Instr.buildSlice, Sem.run_bind, run_underlying hd, Result.andThen_ok, run_sizeOf_info hi]
                  rw [if_neg (by omega)]
                  simp only [Sem.run_bind, Sem.run_pure, Result.andThen_ok, if_pos h0, hf, newRow, run_newObj]
                  rfl
                · refine ⟨(Array.range (len * te.size)).map fun j => z.cells[j % z.cells.size]!, by simp, fun arr' hf => ?_⟩
                  rw [hs] at h0 hf e3
                  simp only [Instr.buildSlice, Sem.run_bind, run_underlying hd, Result.andThen_ok, run_sizeOf_info hi]
                  rw [if_neg (by omega)]
                  simp only [Sem.run_bind, Sem.run_pure, Result.andThen_ok, if_neg h0, zeroValue, typeInfo, run_program, hi, hzi, hf, newRow, run_newObj]
                  rfl
              obtain ⟨arr', q1, q2, _, q4⟩ := dense_ok (k := 0) (arr := zs) hels hpr e1 (by rw [hzs, e2]; simp)
              have hrun' : (execOp a.eval o).run P w = .ok (.value (.slice (some ⟨w.heap.size, 0, none⟩) len len)) (w.alloc (.cells arr' e)) := by
                rw [hrun, hrun0 arr' q1]; rfl
              have hS : ∀ b, S b → S b ∧ (w.alloc (.cells arr' e)).heap[b]? = w.heap[b]? := fun b hb => ⟨hb, alloc_heap w _ b (hg.out b hb).1⟩
              refine ok_new (v := V.ref) hg ht hrun' (alloc_heap w _) (by simp) rfl rfl rfl ?_ (.inr rfl) ⟨by simp [addK], .inl ⟨_, _, _, rfl⟩⟩ h hp
              refine ⟨e4, _, arr'.toList, rfl, ⟨by simp [q2, hzs], .inr ⟨w.heap.size, len, arr', rfl, Nat.zero_le _, heap_alloc_new w _, Nat.le_refl _, ?_, by rw [q2, hzs], ?_⟩⟩, ?_⟩
              · have : len * 1 ≤ len * te.size := Nat.mul_le_mul_left _ e4
                unfold maxLen
                omega
              · rw [List.take_of_length_le]
                simp [q2, hzs]
              · intro k hkn
                have hkl : k < els.length := by rw [e2]; exact hkn
                obtain ⟨c, z1, z2, z3, z4⟩ := q4 k els[k] (by simp [hkl])
                refine ⟨c, ?_, z2, z3, fun j hj => ?_⟩
                · have : litRow len els k = els[k] := by rw [litRow_eq hkl, nth_eq]; simp [hkl]
                  show VR S _ (litRow len els k) noK c
                  rw [this]
                  exact VR.mono hS _ _ _ _ (fun _ _ h => h) z1
                · have := z4 j hj
                  rw [Nat.zero_add] at this
                  rw [Array.getElem?_toList]
                  exact this
            · cases h
          · cases h
        · cases h
      · cases h
    · cases h
  · cases h

include hτ in
/-- One operation that leaves the own memory as it is. -/
theorem stepQ_ok (hΓ : CallOK P Γ) (hg : Good κ S st.h w) (hE : EnvOK Γ S w) (ht : VRs S w st.t κ a.tmps.toList) {v : V}
    (h : (stepQ τ Γ o st).sem = some v) (hp : PostQ a o κ S st.h w K st.h v) : o.wp P a w K Q := by
  have same : Same P a o S w κ v → o.wp P a w K Q := fun hs => same_postQ hg hs hp
  have value : ∀ c, (execOp a.eval o).run P w = .ok (.value c) w → VR S w v κ c → o.wp P a w K Q := fun c h1 h2 => same ⟨c, h1, h2⟩
  unfold stepQ at h
  split at h
  · rename_i x ho
    split at h
    · cases h
    · rw [sem_leaf h] at value
      exact value _ (by unfold execOp; simp only [ho]; rfl) (ev_ok hE ht x)
  · rename_i x ho
    split at h
    · cases h
    · rw [sem_leaf h] at value
      exact value _ (by unfold execOp; simp only [ho]; rfl) (ev_ok hE ht x)
  · rename_i c x y ho
    have hc := ev_ok hE ht c
    split at h
    · rename_i b hb
      rw [hb] at hc
      have hc := VR_val hc
      have hrun : ∀ u : Value, (if b then a.eval x else a.eval y) = u → (execOp a.eval o).run P w = .ok (.value u) w := by
        intro u hu
        unfold execOp
        simp only [ho, hc, asBool, Sem.run_bind, Sem.run_pure, Result.andThen_ok, hu]
      cases b
      · have : v = ev Γ st y := sem_leaf h
        subst this
        exact value _ (hrun _ rfl) (ev_ok hE ht y)
      · have : v = ev Γ st x := sem_leaf h
        subst this
        exact value _ (hrun _ rfl) (ev_ok hE ht x)
    · cases h
  · rename_i t parts ho
    have hpr : PartsR S w κ (evs Γ st parts.toList) (parts.map fun (i, x) => (i, a.eval x)).toList := by
      have := evs_ok hE ht parts.toList
      simpa using this
    obtain ⟨c, h2, h3⟩ := build_ok (P := P) hτ (sem_ofOpt h) hpr
    refine value c ?_ h3
    unfold execOp
    simp only [ho, Sem.run_bind, h2, Result.andThen_ok, Sem.run_pure]
  · rename_i t x ho
    obtain ⟨c, h2, h3⟩ := load_ok (P := P) hτ hg (ev_ok hE ht x) h
    refine value c ?_ h3
    unfold execOp
    simp only [ho, Sem.run_bind, h2, Result.andThen_ok, Sem.run_pure]
  · rename_i x ho
    have hx := ev_ok hE ht x
    split at h
    · rename_i id off hv
      rw [hv] at hx
      have hx' := hx
      obtain ⟨g, _, hcx⟩ := hx'
      rw [sem_leaf h] at value
      exact value _ (by unfold execOp; simp only [ho, hcx]; rfl) (by rw [← hcx]; exact hx)
    · rename_i id s i off hv
      rw [hv] at hx
      have hx' := hx
      obtain ⟨g, n, cap, _, hcx⟩ := hx'
      rw [sem_leaf h] at value
      exact value _ (by unfold execOp; simp only [ho, hcx]; rfl) (by rw [← hcx]; exact hx)
    · rename_i u hv
      rw [hv] at hx
      have hx' := hx
      obtain ⟨b, o', cv, hcx, _⟩ := hx'
      rw [sem_leaf h] at value
      exact value _ (by unfold execOp; simp only [ho, hcx]; rfl) (by rw [← hcx]; exact hx)
    · rename_i f cs hv
      rw [hv] at hx
      have hx' := hx
      obtain ⟨ca, hcx, _⟩ := hx'
      rw [sem_leaf h] at value
      exact value _ (by unfold execOp; simp only [ho, hcx]; rfl) (by rw [← hcx]; exact hx)
    · cases h
  · rename_i op t x y yt ho
    obtain ⟨c, h2, h3⟩ := binV_ok (P := P) hτ h (ev_ok hE ht x) (ev_ok hE ht y) x y
    refine value c ?_ h3
    unfold execOp
    simp only [ho]
    rw [Sem.run_bind, h2]
    rfl
  · rename_i op t x ho
    obtain ⟨c, h2, h3⟩ := unV_ok (P := P) h (ev_ok hE ht x)
    refine value c ?_ h3
    unfold execOp
    simp only [ho, Sem.run_bind, h2, Result.andThen_ok, Sem.run_pure]
  · rename_i src dst x ho
    obtain ⟨c, h2, h3⟩ := convS_ok (P := P) hτ hg h (ev_ok hE ht x)
    refine value c ?_ h3
    unfold execOp
    simp only [ho, Sem.run_bind, h2, Result.andThen_ok, Sem.run_pure]
  · rename_i f first captured ho
    split at h
    · rename_i hf
      have hf : first = #[] := Array.eq_empty_of_size_eq_zero (Nat.eq_of_beq_eq_true hf)
      have := args_ok hE ht captured.toList
      rw [sem_leaf h] at value
      refine value (.func (.func f) #[] (captured.map a.eval)) ?_ ⟨captured.toList.map a.eval, by congr 1; apply Array.ext'; simp, this⟩
      unfold execOp
      simp only [ho, Instr.makeFunc, hf, Sem.run_bind, Sem.run_pure, Result.andThen_ok, Array.map_empty]
    · cases h
  · rename_i t x lo hi ho
    exact same (slice_ok (P := P) (a := a) (o := o) (clo := lo.map a.eval) (chi := hi.map a.eval) hτ (ev_ok hE ht x)
      (fun v hv => by
        cases lo with
        | none => cases hv
        | some l => cases hv; exact ⟨_, rfl, ev_ok hE ht l⟩)
      (fun hv => by cases lo with | none => rfl | some l => cases hv)
      (fun v hv => by
        cases hi with
        | none => cases hv
        | some l => cases hv; exact ⟨_, rfl, ev_ok hE ht l⟩)
      (fun hv => by cases hi with | none => rfl | some l => cases hv)
      (by unfold execOp; simp only [ho, Sem.run_bind, Sem.run_pure, Option.map_none]) h)
  · rename_i s x f ho
    exact same (fieldAddr_ok (P := P) hτ (ev_ok hE ht x) (by unfold execOp; simp only [ho, Sem.run_bind, Sem.run_pure]) h)
  · rename_i s x f ho
    exact same (field_ok (P := P) hτ (ev_ok hE ht x) (by unfold execOp; simp only [ho, Sem.run_bind, Sem.run_pure]) h)
  · rename_i t x ix ho
    exact same (indexAddr_ok (P := P) hτ hg (ev_ok hE ht x) (ev_ok hE ht ix) (by unfold execOp; simp only [ho, Sem.run_bind, Sem.run_pure]) h)
  · rename_i t m x ho
    exact same (lookup_ok (P := P) hτ hg (ev_ok hE ht m) (ev_ok hE ht x) (by unfold execOp; simp only [ho, Sem.run_bind, Sem.run_pure]) h)
  · rename_i t x ix ho
    exact same (index_ok (P := P) hτ (ev_ok hE ht x) (ev_ok hE ht ix) (by unfold execOp; simp only [ho, Sem.run_bind, Sem.run_pure]) h)
  · rename_i x i ho
    have hx := ev_ok hE ht x
    split at h
    · rename_i vs hv
      rw [hv] at hx
      obtain ⟨ca, hcx, hvs⟩ := hx
      obtain ⟨c, h2, h3⟩ := VRs.get hvs (sem_ofOpt h)
      refine value c ?_ h3
      unfold execOp
      simp only [ho, hcx, Instr.extract, List.getElem?_toArray, h2, Sem.run_bind, Sem.run_pure, Result.andThen_ok]
    · cases h
  · rename_i c ho
    split at h
    · rename_i f hc
      split at h
      · rename_i g caps hf
        obtain ⟨⟨v', h'⟩, h1, h2⟩ := sem_bind_some h
        have hh' : h' = [] ∧ v = v' := by
          cases h' with
          | nil => exact ⟨rfl, sem_leaf h2⟩
          | cons _ _ => cases h2
        obtain ⟨rfl, rfl⟩ := hh'
        exact call_ok hΓ hg hE ht ho hc hf h1 hp
      · cases h
    · rename_i hc
      split at h
      · rename_i x t hargs htys
        have hav := args_ok hE ht c.args.toList
        rw [hargs] at hav
        obtain ⟨cx, l', hl, hcx, hl'⟩ := hav
        have hl' : l' = [] := hl'
        subst hl'
        obtain ⟨cv, h2, h3⟩ := len_ok (P := P) hτ hg hcx h o.type
        refine value cv ?_ h3
        have hca : c.args.map a.eval = #[cx] := by apply Array.ext'; simpa using hl
        have hct : c.argTypes = #[t] := by apply Array.ext'; simpa using htys
        unfold execOp
        simp only [ho, resolve, hc, Sem.run_bind, Sem.run_pure, Result.andThen_ok, invoke, builtin, hca, hct, h2]
      · cases h
    · rename_i hc
      split at h
      · rename_i k x k' y hargs
        have hav := args_ok hE ht c.args.toList
        rw [hargs] at hav
        obtain ⟨cx, l', hl, hcx, cy, l'', hl2, hcy, hl3⟩ := hav
        have hl3 : l'' = [] := hl3
        subst hl3
        subst hl2
        have hca : c.args.map a.eval = #[.int k x, .int k' y] := by
          apply Array.ext'
          rw [← VR_val hcx, ← VR_val hcy]
          simpa using hl
        rw [sem_leaf h] at value
        refine value (.int k (if y < x then y else x)) ?_ ?_
        · unfold execOp
          simp only [ho, resolve, hc, Sem.run_bind, Sem.run_pure, Result.andThen_ok, invoke, builtin, hca, Builtin.min_, List.foldlM_cons, List.foldlM_nil, Builtin.min2]
        · show _ = _
          simp only [sel, ilt, Bool.cond_decide]
      · rename_i k x k' y k'' z hargs
        have hav := args_ok hE ht c.args.toList
        rw [hargs] at hav
        obtain ⟨cx, l', hl, hcx, cy, l'', hl2, hcy, cz, l3, hl3, hcz, hl4⟩ := hav
        have hl4 : l3 = [] := hl4
        subst hl4
        subst hl3
        subst hl2
        have hca : c.args.map a.eval = #[.int k x, .int k' y, .int k'' z] := by
          apply Array.ext'
          rw [← VR_val hcx, ← VR_val hcy, ← VR_val hcz]
          simpa using hl
        rw [sem_leaf h] at value
        refine value (.int k (if z < (if y < x then y else x) then z else (if y < x then y else x))) ?_ ?_
        · unfold execOp
          simp only [ho, resolve, hc, Sem.run_bind, Sem.run_pure, Result.andThen_ok, invoke, builtin, hca, Builtin.min_, List.foldlM_cons, List.foldlM_nil, Builtin.min2]
        · show _ = _
          simp only [sel, ilt, Bool.cond_decide]
      · cases h
    · rename_i hc
      split at h
      · rename_i k x k' y hargs
        have hav := args_ok hE ht c.args.toList
        rw [hargs] at hav
        obtain ⟨cx, l', hl, hcx, cy, l'', hl2, hcy, hl3⟩ := hav
        have hl3 : l'' = [] := hl3
        subst hl3
        subst hl2
        have hca : c.args.map a.eval = #[.int k x, .int k' y] := by
          apply Array.ext'
          rw [← VR_val hcx, ← VR_val hcy]
          simpa using hl
        rw [sem_leaf h] at value
        refine value (.int k (if x < y then y else x)) ?_ ?_
        · unfold execOp
          simp only [ho, resolve, hc, Sem.run_bind, Sem.run_pure, Result.andThen_ok, invoke, builtin, hca, Builtin.max_, List.foldlM_cons, List.foldlM_nil, Builtin.max2]
        · show _ = _
          simp only [sel, ilt, Bool.cond_decide]
      · cases h
    · cases h
  · cases h

include hτ in
theorem freeze_ok (hg : Good κ S st.h w) (ht : VRs S w st.t κ a.tmps.toList) {t id : Nat} {lo hi : Option V} {cx : Value} {clo chi : Option Value} (hx : VR S w (.ref id) κ cx)
    (hlo' : lo = none → clo = none) (hhi : ∀ v, hi = some v → ∃ c, chi = some c ∧ VR S w v κ c)
    (hrun : (execOp a.eval o).run P w = ((Instr.sliceAt t cx clo chi none).run P w).andThen fun v w' => .ok (.value v) w')
    {r : V × St} (h : (freezeV τ st t id lo hi).sem = some r) (hp : Post a o κ S st w K r) : o.wp P a w K Q := by
  unfold freezeV at h
  split at h
  · rename_i ty hty
    obtain ⟨_, d, _, hd, hk, _⟩ := hτ.info hty
    split at h
    · rename_i e e' s n g hkk hh
      rw [hkk] at hk
      have := kOf_sl hk.symm
      subst this
      split at h
      · rename_i te hte
        obtain ⟨ti, _, hti, _, _, hts, _⟩ := hτ.info hte
        split at h
        · split at h
          · rename_i k x
            obtain ⟨c1, hc1, hv1⟩ := hhi _ rfl
            obtain ⟨hb, h2⟩ := sem_br_fail h
            obtain ⟨hb1, hb2⟩ := band_ok hb
            have hb1 := ile_ok hb1
            have hb2 : x ≤ (n : Int) := ile_ok hb2
            have htx : toN x = x.toNat := rfl
            have hr := sem_leaf h2
            subst hr
            obtain ⟨hs0, c0, xs, hk0, ho, he⟩ := blk_row hg hh
            obtain ⟨hk', _⟩ := hx
            rw [hk0] at hk'
            simp at hk'
            subst hk'
            obtain ⟨q1, q2, q3⟩ := Good.freeze hg hh hk0
            have hel : ∃ ay cap, c0 = .slice ay n cap ∧ n ≤ cap ∧ (n = 0 ∨ ∃ b, ay = some ⟨b, 0, none⟩ ∧
                ∀ i, i < n → ∃ ci, VR (fun b => S b ∨ ownB κ st.h id = some b) w (g i) (fun _ => none) ci ∧ ci.cells.size = s ∧ (∀ u ∈ ci.cells.toList, u.oneCell' = true) ∧ At (fun b => S b ∨ ownB κ st.h id = some b) w b (0 + i * s) ci.cells.toList) := by
              rcases ho.2 with ⟨rfl, h0⟩ | ⟨g', cap, cur, rfl, _, hgw, hnc, _, hsz, htake⟩
              · exact ⟨none, 0, by rw [h0], by omega, .inl h0⟩
              · refine ⟨_, cap, rfl, hnc, .inr ⟨g', rfl, fun i hi => ?_⟩⟩
                obtain ⟨ci, r1, r2, r3, r4⟩ := he i hi
                refine ⟨ci, VR.mono (S' := fun b => S b ∨ ownB κ st.h id = some b) (fun b hb => ⟨Or.inl hb, rfl⟩) _ _ _ _ (fun _ _ h => h) r1, r2, r3, fun j u hj => ?_⟩
                have hown : ownB κ st.h id = some g' := by rw [ownB_of hh (by simp), hk0]; rfl
                refine ⟨.inr hown, ?_⟩
                have hjs : j < s := by
                  have := (List.getElem?_eq_some_iff.1 hj).1
                  rw [Array.length_toList] at this
                  omega
                have := r4 j hjs
                rw [← htake, List.getElem?_take, if_pos (flat_lt hi hjs)] at this
                rw [Nat.zero_add, cell_of_row w g' _ cur e' (0, 0) hgw]
                rw [Array.getElem?_toList] at this hj
                rw [this]
                exact hj
            obtain ⟨ay, cap, rfl, hcap, hel⟩ := hel
            unfold Oper.wp
            have hbd := run_bounds (P := P) (w := w) true n cap none (some (k, x)) 0 (toN x) (fun p hp => by cases hp; exact ⟨hb1, by show x ≤ _; omega, rfl⟩) (fun h => by cases h) (fun _ h => by cases h) (fun _ => rfl)
            rw [hrun, show clo = (none : Option (IntKind × Int)).map (fun p => Value.int p.1 p.2) from hlo' rfl, show chi = (some (k, x)).map (fun p => Value.int p.1 p.2) by rw [hc1, VR_val hv1]; rfl]
            simp only [Instr.sliceAt, Sem.run_bind, run_underlying hd, Result.andThen_ok, Instr.slice, hbd, run_sizeOf_info hti, Sem.run_pure]
            refine hp (setK κ id _) (fun b => S b ∨ ownB κ st.h id = some b) _ w q1 (q2 _ _ ht) ⟨_, _, rfl, by omega, by omega, ?_⟩ ?_
            · rcases hel with h0 | ⟨b, rfl, hel⟩
              · exact .inl h0
              · by_cases hz : n = 0
                · exact .inl hz
                · refine .inr ⟨b, 0, ?_, hel⟩
                  rw [if_neg (by omega), Option.map_some, addr_add, Nat.zero_mul, Nat.add_zero]
            · exact Ext.freeze hg hh hk0 q3
          · cases h
        · cases h
      · cases h
    · cases h
  · cases h

theorem post_of_postQ (hg : Good κ S st.h w) (ht : VRs S w st.t κ a.tmps.toList) {v : V} {h' : List Blk} (hp : Post a o κ S st w K (v, ⟨st.t, h'⟩)) : PostQ a o κ S st.h w K h' v := by
  intro κ' S' c w' q1 q2 q3 q4
  exact hp κ' S' c w' q1 (VR.mono_go (q3.pers hg) _ _ _ _ q4 ht) q2 q3

include hτ in
/-- One operation. -/
theorem step_ok (hΓ : CallOK P Γ) (hg : Good κ S st.h w) (hE : EnvOK Γ S w) (ht : VRs S w st.t κ a.tmps.toList)
    (h : (step τ Γ o st).sem = some r) (hp : Post a o κ S st w K r) : o.wp P a w K Q := by
  have hs := h
  have quiet : (keep st (stepQ τ Γ o st)).sem = some r → o.wp P a w K Q := fun hk => by
    obtain ⟨v, h1, hr⟩ := sem_keep hk
    subst hr
    exact stepQ_ok (P := P) hτ hΓ hg hE ht h1 (post_of_postQ hg ht hp)
  unfold step at h
  split at h
  · rename_i x ho
    exact move_ok hg ht (ev_ok hE ht x) (by unfold execOp; simp only [ho]; rfl) h hp
  · rename_i x ho
    exact move_ok hg ht (ev_ok hE ht x) (by unfold execOp; simp only [ho]; rfl) h hp
  · rename_i t ho
    split at h
    · rename_i ty hty
      obtain ⟨i, _, hi, _, _, _, _, hz, _⟩ := hτ.info hty
      split at h
      · rename_i cs hcs
        obtain ⟨z, hzi, hzz⟩ : ∃ z, i.zero = some z ∧ ty.zero = ofValue z := by
          cases hzz : i.zero with
          | none => rw [hzz] at hz; rw [hz] at hcs; simp [V.cells] at hcs
          | some z => rw [hzz] at hz; exact ⟨z, rfl, hz⟩
        have hrun : (execOp a.eval o).run P w = .ok (.value (.pointer (some ⟨w.heap.size, 0, none⟩))) (w.alloc (.cells z.cells t)) := by
          unfold execOp
          simp only [ho, Instr.alloc, Sem.run_bind, zeroValue, typeInfo, run_program, Result.andThen_ok, hi, Sem.run_pure, hzi, newVar, newRow, run_newObj]
          rfl
        split at h
        · rename_i n hn
          unfold bigArr at hn
          split at hn
          · split at hn
            · rename_i _ hle hf
              simp only [Option.some.injEq] at hn
              subst hn
              exact ok_big (t := t) hg ht (x := ty.zero) (cx := z) (by rw [hzz]; exact VR_ofValue z) hcs (Nat.le_of_ble_eq_true hle) hf hrun h hp
            · cases hn
          · cases hn
        · exact ok_var (t := t) hg ht (x := ty.zero) (cx := z) (by rw [hzz]; exact VR_ofValue z) hcs hrun h hp
      · cases h
    · cases h
  · rename_i t x ho
    split at h
    · rename_i cs hcs
      refine ok_var (t := t) hg ht (ev_ok hE ht x) hcs ?_ h hp
      unfold execOp
      simp only [ho, Instr.box, Sem.run_bind, newVar, newRow, run_newObj, Result.andThen_ok, Sem.run_pure]
      rfl
    · cases h
  · rename_i t len parts ho
    exact buildSlice_ok (P := P) hτ hg hE ht ho hs hp
  · rename_i t x y ho
    exact store_ok (P := P) hτ hg ht (ev_ok hE ht x) (ev_ok hE ht y) (by unfold execOp; simp only [ho, Sem.run_bind, Sem.run_pure]) h hp
  · rename_i t l c ho
    exact make_ok (P := P) hτ hg ht (ev_ok hE ht l) (ev_ok hE ht c) (by unfold execOp; simp only [ho, Sem.run_bind, Sem.run_pure]) h hp
  · rename_i t ho
    exact makeMap_ok (P := P) hτ hg ht (by unfold execOp; simp only [ho, Sem.run_bind, Sem.run_pure, Option.map_none]) h hp
  · rename_i t x lo hi ho
    split at h
    · rename_i id hid
      have hx := ev_ok hE ht x
      rw [hid] at hx
      exact freeze_ok (P := P) (clo := lo.map a.eval) (chi := hi.map a.eval) hτ hg ht hx
        (fun hv => by cases lo with | none => rfl | some l => cases hv)
        (fun v hv => by
          cases hi with
          | none => cases hv
          | some l => cases hv; exact ⟨_, rfl, ev_ok hE ht l⟩)
        (by unfold execOp; simp only [ho, Sem.run_bind, Sem.run_pure, Option.map_none]) h hp
    · exact quiet h
  · rename_i t m x y ho
    exact mapPut_ok (P := P) hτ hg ht (ev_ok hE ht m) (ev_ok hE ht x) (ev_ok hE ht y) (by unfold execOp; simp only [ho, Sem.run_bind, Sem.run_pure]) h hp
  · rename_i c ho
    split at h
    · unfold stepC at h
      split at h
      · rename_i f hc
        split at h
        · rename_i g caps hf
          obtain ⟨⟨v, h'⟩, h1, h2⟩ := sem_bind_some h
          have hr := sem_leaf h2
          subst hr
          exact call_ok hΓ hg hE ht ho hc hf h1 (post_of_postQ hg ht hp)
        · cases h
      · rename_i hc
        split at h
        · rename_i x y t t' hargs htys
          split at h
          · rename_i htt
            have htt : t = t' := Nat.eq_of_beq_eq_true htt
            subst htt
            have hav := args_ok hE ht c.args.toList
            rw [hargs] at hav
            obtain ⟨cx, l', hl, hcx, cy, l'', hl2, hcy, hl3⟩ := hav
            have hl3 : l'' = [] := hl3
            subst hl3
            subst hl2
            have hca : c.args.map a.eval = #[cx, cy] := by apply Array.ext'; simpa using hl
            have hct : c.argTypes = #[t, t] := by apply Array.ext'; simpa using htys
            refine append_ok (P := P) hτ hg ht hcx hcy ?_ h hp
            unfold execOp
            simp only [ho, resolve, hc, Sem.run_bind, Sem.run_pure, Result.andThen_ok, invoke, builtin, hca, hct]
          · cases h
        · cases h
      · cases h
    · exact quiet h
  · exact quiet h

end
end Go.Sy

