/-
  The evaluator's operations are the model's: types, parts, loads, arithmetic. No conditions.
-/
import Derived.Test.YtcaljjnadbpacaaDoorSyC
import Derived.Maps.AppendAt
import Derived.Laws.StructEq
import Derived.RegionTactic
namespace Go.Sy

structure TabOK (P : Program) (τ : List Ty) : Prop where
  tab : ∀ j ty, τ[j]? = some ty → tyOf P j = some ty
  same : P = theP

section
variable {P : Program} {τ : List Ty} (hτ : TabOK P τ)
include hτ

theorem TabOK.info {j : Nat} {ty : Ty} (h : τ[j]? = some ty) : ∃ i d, P.info? j = some i ∧ P.underlying j = some d ∧ ty.k = kOf P d ∧ ty.size = i.size ∧ ty.bytes = i.bytes ∧
    ty.zero = (match i.zero with | some z => ofValue z | none => .und) ∧ ty.plain = plainStruct P j := by
  have := hτ.tab j ty h
  unfold tyOf at this
  split at this
  · rename_i i d hi hd
    simp at this
    subst this
    exact ⟨i, d, hi, hd, rfl, rfl, rfl, rfl, rfl⟩
  · cases this
end

theorem kOf_map {P : Program} {k e : Nat} (x : K) (h : kOf P (.map k e) = x) : x = .other ∨ x = .imap e := by
  subst h
  simp only [kOf]
  split
  · exact .inr rfl
  · exact .inl rfl

theorem kOf_sl {P : Program} {d : TypeDesc} {e : Nat} (h : kOf P d = .sl e) : d = .slice e := by
  cases d
  case map k e => rcases kOf_map _ h with h | h <;> cases h
  all_goals (simp [kOf] at h <;> try rw [h])
theorem kOf_int {P : Program} {d : TypeDesc} {k : IntKind} (h : kOf P d = .int k) : d = .int k := by
  cases d
  case map k e => rcases kOf_map _ h with h | h <;> cases h
  all_goals (simp [kOf] at h <;> try rw [h])
theorem kOf_bool {P : Program} {d : TypeDesc} (h : kOf P d = .bool) : d = .bool := by
  cases d
  case map k e => rcases kOf_map _ h with h | h <;> cases h
  all_goals first | rfl | (simp [kOf] at h)
theorem kOf_str {P : Program} {d : TypeDesc} (h : kOf P d = .str) : d = .string := by
  cases d
  case map k e => rcases kOf_map _ h with h | h <;> cases h
  all_goals first | rfl | (simp [kOf] at h)
theorem kOf_arr {P : Program} {d : TypeDesc} {n e : Nat} (h : kOf P d = .arr n e) : d = .array n e := by
  cases d
  case map k e => rcases kOf_map _ h with h | h <;> cases h
  all_goals (simp [kOf] at h <;> try rw [h.1, h.2])
theorem kOf_st {P : Program} {d : TypeDesc} {fs : List (Nat × Nat)} (h : kOf P d = .st fs) : ∃ gs, d = .struct gs ∧ fs = gs.toList.map fun f => (f.offset, f.type) := by
  cases d
  case map k e => rcases kOf_map _ h with h | h <;> cases h
  all_goals (simp [kOf] at h <;> try exact ⟨_, rfl, h.symm⟩)
theorem kOf_imap {P : Program} {d : TypeDesc} {e : Nat} (h : kOf P d = .imap e) : ∃ k, d = .map k e ∧ P.underlying k = some (.int .i64) ∧ P.underlying e = some (.int .i64) := by
  cases d <;> simp only [kOf] at h <;> try cases h
  rename_i k e
  split at h
  · rename_i h1 h2
    cases h
    exact ⟨k, rfl, h1, h2⟩
  · cases h

section
variable {P : Program} {τ : List Ty} (hτ : TabOK P τ)

theorem run_sizeOf_info {t : Nat} {i : TypeInfo} (h : P.info? t = some i) (w : World) : (sizeOf t).run P w = .ok i.size w := by
  simp [sizeOf, typeInfo, h]

theorem run_isAgg_k {t : Nat} {d : TypeDesc} (h : P.underlying t = some d) (w : World) : (isAgg t).run P w = .ok (isAggK (kOf P d)) w := by
  unfold isAgg
  rw [Sem.run_bind, run_underlying h w]
  cases d
  case map k e =>
    have : isAggK (kOf P (.map k e)) = false := by
      rcases kOf_map _ (Eq.refl (kOf P (.map k e))) with h | h <;> rw [h] <;> rfl
    rw [this]
    rfl
  all_goals rfl

theorem addr_add (b o j : Nat) : (⟨b, o, none⟩ : Addr).add j = ⟨b, o + j, none⟩ := by
  unfold Addr.add
  split
  · subst_vars; rfl
  · rfl

theorem oneCell_cells {c : Value} (h : c.oneCell' = true) : c.cells = #[c] := by cases c <;> simp [Value.oneCell'] at h <;> rfl

section
variable {S : Nat → Prop} {w : World} {κ : Nat → Option Value}

theorem getElem?_drop_take (l : List Value) (off n j : Nat) : ((l.drop off).take n)[j]? = if j < n then l[off + j]? else none := by
  rw [List.getElem?_take, List.getElem?_drop]

include hτ in
/-- A part of some cells. -/
theorem part_ok {t off : Nat} {cs : List V} {v : V} {ca : List Value} (hp : partV τ t cs off = some v) (hcs : VRs S w cs κ ca) :
    ∃ c, (part t ca.toArray off).run P w = .ok c w ∧ VR S w v κ c ∧
      (∀ (b o : Nat), (∀ j u, ca[j]? = some u → w.cell? ⟨b, o + j, none⟩ = some u) → (loadVar t ⟨b, o + off, none⟩).run P w = .ok c w) ∧
      ((∀ u ∈ ca, u.oneCell' = true) → (∀ j u, c.cells[j]? = some u → ca[off + j]? = some u) ∧ (∀ u ∈ c.cells.toList, u.oneCell' = true)) ∧
      (∃ ty, τ[t]? = some ty ∧ (isAggK ty.k = true → c.cells.size = ty.size)) := by
  unfold partV at hp
  split at hp
  · rename_i ty hty
    obtain ⟨i, d, hi, hd, hk, hs, _, _, _⟩ := hτ.info hty
    split at hp
    · rename_i hagg
      split at hp
      · rename_i hle
        simp at hp
        subst hp
        have hle' : off + ty.size ≤ cs.length := by simpa using hle
        have hlen := hcs.length
        have hcs' : VRs S w ((cs.drop off).take ty.size) κ ((ca.drop off).take ty.size) := (hcs.drop off).take ty.size
        have hl2 : ((ca.drop off).take ty.size).length = ty.size := by simp; omega
        rw [hk] at hagg
        refine ⟨.agg ((ca.drop off).take ty.size).toArray, ?_, ⟨_, rfl, hcs'⟩, ?_, ?_, ⟨ty, hty, fun _ => by simpa [Value.cells] using hl2⟩⟩
        · simp only [part, Sem.run_bind, run_isAgg_k hd, hagg, Result.andThen_ok, if_true, run_sizeOf_info hi, Sem.run_pure, ← hs]
          congr 2
          apply Array.ext'
          simp [List.extract_eq_take_drop]
        · intro b o hcell
          have hld := run_loadCells_list (P := P) w ⟨b, o + off, none⟩ ((ca.drop off).take ty.size) (fun j u hj => by
            rw [addr_add, Nat.add_assoc]
            rw [getElem?_drop_take] at hj
            split at hj
            · exact hcell _ _ hj
            · cases hj)
          rw [hl2] at hld
          simp only [loadVar, Sem.run_bind, run_isAgg_k hd, hagg, Result.andThen_ok, if_true, run_sizeOf_info hi, ← hs, hld, Sem.run_pure]
        · intro h1
          refine ⟨fun j u hj => ?_, fun u hu => ?_⟩
          · simp only [Value.cells, List.getElem?_toArray, getElem?_drop_take] at hj
            split at hj
            · exact hj
            · cases hj
          · simp only [Value.cells] at hu
            exact h1 u (List.mem_of_mem_drop (List.mem_of_mem_take hu))
      · cases hp
    · rename_i hagg
      obtain ⟨c, hc, hv⟩ := hcs.get hp
      rw [hk] at hagg
      refine ⟨c, ?_, hv, ?_, ?_, ⟨ty, hty, fun h => by rw [hk, hagg] at h; cases h⟩⟩
      · simp [part, run_isAgg_k hd, hagg, hc]
      · intro b o hcell
        simp [loadVar, run_isAgg_k hd, hagg, hcell off c hc]
      · intro h1
        have hcc := oneCell_cells (h1 c (List.mem_of_getElem? hc))
        rw [hcc]
        refine ⟨fun j u hj => ?_, fun u hu => ?_⟩
        · cases j with
          | zero => simp at hj; subst hj; simpa using hc
          | succ j => simp at hj
        · simp at hu; subst hu; exact h1 u (List.mem_of_getElem? hc)
  · cases hp

end
end
#print axioms part_ok
end Go.Sy
