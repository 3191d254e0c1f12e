/-
  The evaluator's stores, makes and appends are the model's. No conditions.
-/
import Derived.Test.YtkcbdemfmjciiaaGreatDoorSyG
namespace Go.Sy

section
variable {S : Nat → Prop} {w : World}

mutual
theorem VR_free {κ κ' : Nat → Option Value} : ∀ (v : V) (c : Value), free v = true → VR S w v κ c → VR S w v κ' c
  | .val _, _, _, h => h
  | .str _, _, _, h => h
  | .agg cs, _, hf, h => by
    obtain ⟨ca, e, h⟩ := h
    exact ⟨ca, e, VRs_free cs _ hf h⟩
  | .tup cs, _, hf, h => by
    obtain ⟨ca, e, h⟩ := h
    exact ⟨ca, e, VRs_free cs _ hf h⟩
  | .fn f cs, _, hf, h => by
    obtain ⟨ca, e, h⟩ := h
    exact ⟨ca, e, VRs_free cs _ hf h⟩
  | .nilS, _, _, h => h
  | .sl _ _ _, _, _, h => h
  | .slr _ _ _ _, _, _, h => h
  | .pp _, _, _, h => h
  | .ptr _ _, _, hf, _ => by cases hf
  | .ref _, _, hf, _ => by cases hf
  | .ept _ _ _ _, _, hf, _ => by cases hf
  | .und, _, _, _ => trivial
theorem VRs_free {κ κ' : Nat → Option Value} : ∀ (vs : List V) (l : List Value), free.frees vs = true → VRs S w vs κ l → VRs S w vs κ' l
  | [], _, _, h => h
  | v :: vs, _, hf, h => by
    obtain ⟨a, l', e, h1, h2⟩ := h
    simp only [free.frees] at hf
    split at hf
    · rename_i hv
      exact ⟨a, l', e, VR_free v _ hv h1, VRs_free vs _ hf h2⟩
    · cases hf
end
end

theorem cells_agg (X : Array Value) : (Value.agg X).cells = X := rfl

theorem flat_lt {i j s n : Nat} (hi : i < n) (hj : j < s) : i * s + j < n * s := by
  have : (i + 1) * s ≤ n * s := Nat.mul_le_mul_right _ hi
  rw [Nat.add_mul] at this
  omega

section
theorem IsRow.holds' {S : Nat → Prop} {w : World} {κ : Nat → Option Value} {mk : (Nat → V) → Blk} {e s n : Nat} {g : Nat → V} {v : Option Value} (hb : ∀ g', IsRow (mk g') e s n g')
    (h : 0 < s ∧ ∃ c xs, v = some c ∧ w.ownsRow 0 e s c n xs ∧ Elems S w s n g xs) : Holds S w κ v (mk g) := by
  rcases hb g with hb | ⟨lk, hb⟩ <;> (rw [hb]; exact h)

variable {P : Program} {τ : List Ty} (hτ : TabOK P τ) {Γ : Cx0} {S : Nat → Prop} {w : World} {κ : Nat → Option Value} {st : St} {a : Act} {o : Oper}
  {K : Act → World → Prop} {Q : Exit → Act → World → Prop} {r : V × St}

theorem getElem?_splice (l m : List Value) (off j : Nat) (h : off + m.length ≤ l.length) :
    (l.take off ++ m ++ l.drop (off + m.length))[j]? = if off ≤ j ∧ j < off + m.length then m[j - off]? else l[j]? := by
  have hto : (l.take off).length = off := by simp; omega
  by_cases h1 : j < off
  · rw [if_neg (by omega), List.append_assoc, List.getElem?_append_left (by omega), List.getElem?_take, if_pos h1]
  · rw [List.append_assoc, List.getElem?_append_right (by omega), hto]
    by_cases h2 : j < off + m.length
    · rw [if_pos (by omega), List.getElem?_append_left (by omega)]
    · rw [if_neg (by omega), List.getElem?_append_right (by omega), List.getElem?_drop]
      congr 1
      omega

/-- A store into an element of an own row. -/
theorem storeRow_ok (hg : Good κ S st.h w) (ht : VRs S w st.t κ a.tmps.toList) {cx cy : Value} {id s' i off : Nat} {cs : List V} (hx : VR S w (.ept id s' i off) κ cx) (hr : VRs S w cs κ cy.cells.toList) (h1 : ∀ u ∈ cy.cells.toList, u.oneCell' = true)
    (hl : cy.cells.toList.length = cs.length)
    (hok : ∀ (g off : Nat) (cur : Array Value) (e : TypeId), cx = .pointer (some ⟨g, off, none⟩) → w.heap[g]? = some (.cells cur e (0, 0)) → off + cs.length ≤ cur.size →
          (execOp a.eval o).run P w = .ok .skip (w.setRow g (cur.toList.take off ++ cy.cells.toList ++ cur.toList.drop (off + cy.cells.toList.length)).toArray))
    {e s n : Nat} {g : Nat → V} {v : V} {mk : (Nat → V) → Blk} (hmk : mk = Blk.row e s n ∨ mk = Blk.xrow false e s n) (hh : st.h[id]? = some (mk g))
    (hpc : putCells (g i) off cs = some v) (hfr : free.frees cs = true) (hss : s.beq s' = true)
    (h : (T.br (nlt i n) (.leaf (undefV, ⟨st.t, st.h.set id (mk (setGet g i v))⟩)) .fail).sem = some r) (hp : Post a o κ S st w K r) : o.wp P a w K Q := by
  have hrow' : ∀ g', IsRow (mk g') e s n g' := fun g' => by
    rcases hmk with rfl | rfl
    · exact .inl rfl
    · exact .inr ⟨_, rfl⟩
  have hrow := hrow' g
  have hss : s = s' := Nat.eq_of_beq_eq_true hss
  subst hss
  obtain ⟨hin, h2⟩ := sem_br_fail h
  have hin : i < n := by simpa [nlt] using hin
  have := sem_leaf h2
  subst this
  obtain ⟨hs0, c0, xs, hk, ho, he⟩ := blk_x hg hh hrow
  obtain ⟨gb, cap, cur, rfl, hgw, hnc, hcm, hcsz, htake⟩ := row_form ho (by omega)
  obtain ⟨gb', n', cap', hk', hcx⟩ := hx
  rw [hk] at hk'
  simp at hk'
  obtain ⟨rfl, _⟩ := hk'
  obtain ⟨ci, hv1, hv2, hv3, hv4⟩ := he i hin
  -- the element as it is behind the store
  obtain ⟨ci', hw1, hw2, hw3, hw4, hoff⟩ : ∃ ci', VR S w v noK ci' ∧ ci'.cells.size = s ∧ (∀ u ∈ ci'.cells.toList, u.oneCell' = true) ∧
      (∀ j, j < s → ci'.cells[j]? = if off ≤ j ∧ j < off + cs.length then cy.cells[j - off]? else ci.cells[j]?) ∧ off + cs.length ≤ s := by
    have hr' : VRs S w cs noK cy.cells.toList := VRs_free _ _ hfr hr
    unfold putCells at hpc
    split at hpc
    · rename_i l hgi
      split at hpc
      · rename_i hle
        have hle : off + cs.length ≤ l.length := by simpa using hle
        simp at hpc
        subst hpc
        rw [hgi] at hv1
        obtain ⟨ca, rfl, hca⟩ := hv1
        have hlca := VRs.length hca
        have hls : ca.length = s := by simpa [cells_agg] using hv2
        refine ⟨.agg (ca.take off ++ cy.cells.toList ++ ca.drop (off + cy.cells.toList.length)).toArray, ⟨_, rfl, VRs_splice hca hr' off⟩, ?_, ?_, ?_, by omega⟩
        · simp only [cells_agg, List.size_toArray, List.length_append, List.length_take, List.length_drop]
          omega
        · intro u hu
          simp only [cells_agg, List.mem_append] at hu
          rcases hu with (hu | hu) | hu
          · exact hv3 u (by simpa [cells_agg] using List.mem_of_mem_take hu)
          · exact h1 u hu
          · exact hv3 u (by simpa [cells_agg] using List.mem_of_mem_drop hu)
        · intro j hj
          simp only [cells_agg, List.getElem?_toArray]
          rw [getElem?_splice _ _ _ _ (by omega), hl, Array.getElem?_toList]
      · cases hpc
    · split at hpc
      · have hsd : solid (g i) = true := by assumption
        simp at hpc
        subst hpc
        obtain ⟨c, l', e1, e2, e3⟩ := hr'
        have e3 : l' = [] := e3
        subst e3
        have hsol : ci.cells = #[ci] := (VR_solid hsd hv1).1
        have hs1 : s = 1 := by rw [hsol] at hv2; simpa using hv2.symm
        have hc1 : c.oneCell' = true := h1 c (by rw [e1]; simp)
        have hcc := oneCell_cells hc1
        refine ⟨c, e2, by rw [hcc, hs1]; rfl, by rw [hcc]; simpa using hc1, ?_, by simp [hs1]⟩
        intro j hj
        have hj0 : j = 0 := by omega
        subst hj0
        have e1' : cy.cells = #[c] := by rw [← Array.toArray_toList (xs := cy.cells), e1]
        rw [hcc, e1']
        simp
      · cases hpc
  have hlecur : i * s + off + cs.length ≤ cur.size := by
    have h3 : (i + 1) * s ≤ n * s := Nat.mul_le_mul_right _ hin
    have h4 : n * s ≤ cap * s := Nat.mul_le_mul_right _ hnc
    rw [Nat.add_mul] at h3
    omega
  have hrun' := hok gb (i * s + off) cur e hcx hgw hlecur
  have hidb : blockOf (κ id) = some gb := by rw [hk]; rfl
  have hwk : ∀ k, k ≠ gb → (w.setRow gb (cur.toList.take (i * s + off) ++ cy.cells.toList ++ cur.toList.drop (i * s + off + cy.cells.toList.length)).toArray).heap[k]? = w.heap[k]? :=
    fun k hk => setRow_other w gb k _ hk
  have hgown : ownB κ st.h id = some gb := by rw [ownB_of hh hrow.live]; exact hidb
  have hS : ∀ b, S b → S b ∧ (w.setRow gb (cur.toList.take (i * s + off) ++ cy.cells.toList ++ cur.toList.drop (i * s + off + cy.cells.toList.length)).toArray).heap[b]? = w.heap[b]? :=
    fun b hb => ⟨hb, hwk b fun eb => (hg.out b hb).2 id (by rw [eb]; exact hgown)⟩
  have hnewlen : (cur.toList.take (i * s + off) ++ cy.cells.toList ++ cur.toList.drop (i * s + off + cy.cells.toList.length)).length = cur.size := by
    simp only [List.length_append, List.length_take, List.length_drop, Array.length_toList]
    simp at hl
    omega
  have hup := Good.upd (w' := w.setRow gb (cur.toList.take (i * s + off) ++ cy.cells.toList ++ cur.toList.drop (i * s + off + cy.cells.toList.length)).toArray)
    (b' := mk (setGet g i v)) hg hh hrow.live (hrow' _).live hidb hwk (size_setRow _ _ _)
    (IsRow.holds' hrow' ⟨hs0, _, (cur.toList.take (i * s + off) ++ cy.cells.toList ++ cur.toList.drop (i * s + off + cy.cells.toList.length)).take (n * s), hk,
      ⟨by
        have : n * s ≤ cap * s := Nat.mul_le_mul_right _ hnc
        rw [List.length_take, hnewlen]
        omega,
       .inr ⟨gb, cap, _, rfl, Nat.zero_le _, setRow_heap w gb cur _ e _ hgw, hnc, hcm, by rw [List.size_toArray, hnewlen, hcsz], by simp⟩⟩,
      fun k hkn => by
        by_cases eki : k = i
        · subst eki
          refine ⟨ci', ?_, hw2, hw3, ?_⟩
          · have : setGet g k v k = v := by simp [setGet_eq]
            rw [this]
            exact VR.mono hS _ _ _ _ (fun _ _ h => h) hw1
          · intro j hj
            rw [List.getElem?_take, if_pos (flat_lt hkn hj), getElem?_splice _ _ _ _ (by simp at hl; simp; omega), hw4 j hj, hl]
            by_cases hc : off ≤ j ∧ j < off + cs.length
            · rw [if_pos (by omega), if_pos hc]
              simp
              congr 1
              omega
            · rw [if_neg (by omega), if_neg hc]
              have := hv4 j hj
              rw [← htake, List.getElem?_take, if_pos (flat_lt hkn hj)] at this
              exact this
        · obtain ⟨ck, q1, q2, q3, q4⟩ := he k hkn
          refine ⟨ck, ?_, q2, q3, ?_⟩
          · have : setGet g i v k = g k := by
              have : Nat.beq k i = false := by
                cases hb : Nat.beq k i
                · rfl
                · exact absurd (Nat.eq_of_beq_eq_true hb) eki
              simp [setGet_eq, this]
            rw [this]
            exact VR.mono hS _ _ _ _ (fun _ _ h => h) q1
          · intro j hj
            rw [List.getElem?_take, if_pos (flat_lt hkn hj), getElem?_splice _ _ _ _ (by simp at hl; simp; omega), hl]
            have hne : ¬ (i * s + off ≤ k * s + j ∧ k * s + j < i * s + off + cs.length) := by
              rcases Nat.lt_or_gt_of_ne eki with hlt | hgt
              · have := flat_lt hlt hj
                omega
              · have h5 : (i + 1) * s ≤ k * s := Nat.mul_le_mul_right _ hgt
                rw [Nat.add_mul] at h5
                omega
            rw [if_neg hne]
            have := q4 j hj
            rw [← htake, List.getElem?_take, if_pos (flat_lt hkn hj)] at this
            exact this⟩)
  unfold Oper.wp
  rw [hrun']
  refine hp κ S undef _ hup.1 (VR.mono_go hS _ _ _ _ (fun _ _ h => h) ht) rfl (Ext.upd hg hgown hwk (size_setRow _ _ _) rfl rfl rfl hup.2 (fun i hi => List.getElem?_set_ne (Ne.symm hi))
    (fun e1 s1 n1 g1 => by rw [hh]; rcases hmk with rfl | rfl <;> simp) (set_fix hh (fun _ _ _ _ h => by rcases hmk with rfl | rfl <;> cases h; exact ⟨_, rfl⟩)))

include hτ in
theorem store_ok (hg : Good κ S st.h w) (ht : VRs S w st.t κ a.tmps.toList) {t : TypeId} {x y : V} {cx cy : Value} (hx : VR S w x κ cx) (hy : VR S w y κ cy)
    (hrun : (execOp a.eval o).run P w = ((Instr.storeAt t cx cy).run P w).andThen fun _ w' => .ok .skip w')
    (h : (storeV τ st t x y).sem = some r) (hp : Post a o κ S st w K r) : o.wp P a w K Q := by
  unfold storeV at h
  split at h
  · rename_i cs ty hcs hty
    obtain ⟨i0, d, hi, _, _, hs, _⟩ := hτ.info hty
    obtain ⟨hr, h1⟩ := VR_cells hcs hy
    have hl := hr.length
    split at h
    · rename_i hsz
      have hsz : cs.length = ty.size := Nat.eq_of_beq_eq_true hsz
      have hok : ∀ (g off : Nat) (cur : Array Value) (e : TypeId), cx = .pointer (some ⟨g, off, none⟩) → w.heap[g]? = some (.cells cur e (0, 0)) → off + cs.length ≤ cur.size →
          (execOp a.eval o).run P w = .ok .skip (w.setRow g (cur.toList.take off ++ cy.cells.toList ++ cur.toList.drop (off + cy.cells.toList.length)).toArray) := by
        intro g off cur e hcx hgw hle
        have hst := run_storeCells_at (P := P) g off e cy.cells.toList 0 cur w hgw (by simpa [hl] using hle) h1
        simp only [Nat.add_zero] at hst
        have hsz2 : ¬ (cy.cells.size ≠ i0.size) := by
          have : cy.cells.size = cs.length := by rw [← hl]; simp
          rw [this, hsz, hs]; simp
        rw [hrun, hcx]
        simp only [Instr.storeAt, Instr.sureAddr, Sem.run_bind, Sem.run_pure, Result.andThen_ok, storeVar, run_sizeOf_info hi, if_neg hsz2, hst]
      split at h
      · rename_i id off
        split at h
        · rename_i old hh
          split at h
          · rename_i hle
            have hle : off + cs.length ≤ old.length := by simpa using hle
            have := sem_leaf h
            subst this
            obtain ⟨g, e, ca, hk, hcx, hgw, hrold⟩ := blk_cells hg hh hx
            have hlo := hrold.length
            have hrun' := hok g off ca e hcx hgw (by simp at hlo; omega)
            have hidb : blockOf (κ id) = some g := by rw [hk]; rfl
            have hwk : ∀ k, k ≠ g → (w.setRow g (ca.toList.take off ++ cy.cells.toList ++ ca.toList.drop (off + cy.cells.toList.length)).toArray).heap[k]? = w.heap[k]? :=
              fun k hk => setRow_other w g k _ hk
            have hgown : ownB κ st.h id = some g := by rw [ownB_of hh (by simp)]; exact hidb
            have hS : ∀ b, S b → S b ∧ (w.setRow g (ca.toList.take off ++ cy.cells.toList ++ ca.toList.drop (off + cy.cells.toList.length)).toArray).heap[b]? = w.heap[b]? :=
              fun b hb => ⟨hb, hwk b fun eb => (hg.out b hb).2 id (by rw [eb]; exact hgown)⟩
            have hup := Good.upd (w' := w.setRow g (ca.toList.take off ++ cy.cells.toList ++ ca.toList.drop (off + cy.cells.toList.length)).toArray)
              (b' := .cells (spliceV old off cs)) hg hh (by simp) (by simp) hidb hwk (size_setRow _ _ _)
              ⟨g, e, _, hk, setRow_heap w g ca _ e _ hgw, by
                rw [List.toList_toArray]
                exact VR.mono_go hS _ _ _ _ (fun _ _ h => h) (VRs_splice hrold hr off)⟩
            unfold Oper.wp
            rw [hrun']
            refine hp κ S undef _ hup.1 (VR.mono_go hS _ _ _ _ (fun _ _ h => h) ht) rfl (Ext.upd hg hgown hwk (size_setRow _ _ _) rfl rfl rfl hup.2 (fun i hi => List.getElem?_set_ne (Ne.symm hi))
              (fun _ _ _ _ => by rw [hh]; simp) (set_fix hh (fun _ _ _ _ h => by cases h)))
          · cases h
        · cases h
      · rename_i id s' i off
        split at h
        · rename_i e s n g hh
          split at h
          · rename_i v hpc hfr hss
            exact storeRow_ok (P := P) hg ht hx hr h1 hl hok (.inl rfl) hh hpc hfr hss h hp
          · cases h
        · rename_i e s n g hh
          split at h
          · rename_i v hpc hfr hss
            exact storeRow_ok (P := P) hg ht hx hr h1 hl hok (.inr rfl) hh hpc hfr hss h hp
          · cases h
        · cases h
      · cases h
    · cases h
  · cases h

end
end Go.Sy

