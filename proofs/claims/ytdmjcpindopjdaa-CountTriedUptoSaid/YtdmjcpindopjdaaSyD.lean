/-
  The evaluator's operations are the model's: types, parts, loads, arithmetic. No conditions.
-/
import Derived.Test.YtdmjcpindopjdaaSyC
import Derived.Maps.AppendAt
import Derived.Laws.StructEq
import Derived.RegionTactic
namespace Go.Sy

structure TabOK (P : Program) (τ : List Ty) : Prop where
  tab : ∀ j ty, τ[j]? = some ty → tyOf P j = some ty

section
variable {P : Program} {τ : List Ty} (hτ : TabOK P τ)
include hτ

theorem TabOK.info {j : Nat} {ty : Ty} (h : τ[j]? = some ty) : ∃ i d, P.info? j = some i ∧ P.underlying j = some d ∧ ty.k = kOf d ∧ ty.size = i.size ∧ ty.bytes = i.bytes ∧
    ty.zero = (match i.zero with | some z => ofValue z | none => .und) ∧ ty.plain = plainStruct P j := by
  have := hτ.tab j ty h
  unfold tyOf at this
  split at this
  · rename_i i d hi hd
    simp at this
    subst this
    exact ⟨i, d, hi, hd, rfl, rfl, rfl, rfl, rfl⟩
  · cases this
end

theorem kOf_sl {d : TypeDesc} {e : Nat} (h : kOf d = .sl e) : d = .slice e := by cases d <;> simp [kOf] at h; rw [h]
theorem kOf_int {d : TypeDesc} {k : IntKind} (h : kOf d = .int k) : d = .int k := by cases d <;> simp [kOf] at h; rw [h]
theorem kOf_bool {d : TypeDesc} (h : kOf d = .bool) : d = .bool := by cases d <;> simp [kOf] at h; rfl
theorem kOf_str {d : TypeDesc} (h : kOf d = .str) : d = .string := by cases d <;> simp [kOf] at h; rfl
theorem kOf_arr {d : TypeDesc} {n e : Nat} (h : kOf d = .arr n e) : d = .array n e := by cases d <;> simp [kOf] at h; rw [h.1, h.2]
theorem kOf_st {d : TypeDesc} {fs : List (Nat × Nat)} (h : kOf d = .st fs) : ∃ gs, d = .struct gs ∧ fs = gs.toList.map fun f => (f.offset, f.type) := by
  cases d <;> simp [kOf] at h; exact ⟨_, rfl, h.symm⟩

section
variable {P : Program} {τ : List Ty} (hτ : TabOK P τ)

theorem run_sizeOf_info {t : Nat} {i : TypeInfo} (h : P.info? t = some i) (w : World) : (sizeOf t).run P w = .ok i.size w := by
  simp [sizeOf, typeInfo, h]

theorem run_isAgg_k {t : Nat} {d : TypeDesc} (h : P.underlying t = some d) (w : World) : (isAgg t).run P w = .ok (isAggK (kOf d)) w := by
  unfold isAgg
  rw [Sem.run_bind, run_underlying h w]
  cases d <;> rfl

theorem addr_add (b o j : Nat) : (⟨b, o, none⟩ : Addr).add j = ⟨b, o + j, none⟩ := by
  unfold Addr.add
  split
  · subst_vars; rfl
  · rfl

theorem oneCell_cells {c : Value} (h : c.oneCell' = true) : c.cells = #[c] := by cases c <;> simp [Value.oneCell'] at h <;> rfl

section
variable {S : Nat → Prop} {w : World} {κ : Nat → Option Value}

theorem getElem?_drop_take (l : List Value) (off n j : Nat) : ((l.drop off).take n)[j]? = if j < n then l[off + j]? else none := by
  rw [List.getElem?_take, List.getElem?_drop]

include hτ in
/-- A part of some cells. -/
theorem part_ok {t off : Nat} {cs : List V} {v : V} {ca : List Value} (hp : partV τ t cs off = some v) (hcs : VRs S w cs κ ca) :
    ∃ c, (part t ca.toArray off).run P w = .ok c w ∧ VR S w v κ c ∧
      (∀ (b o : Nat), (∀ j u, ca[j]? = some u → w.cell? ⟨b, o + j, none⟩ = some u) → (loadVar t ⟨b, o + off, none⟩).run P w = .ok c w) ∧
      ((∀ u ∈ ca, u.oneCell' = true) → (∀ j u, c.cells[j]? = some u → ca[off + j]? = some u) ∧ (∀ u ∈ c.cells.toList, u.oneCell' = true)) ∧
      (∃ ty, τ[t]? = some ty ∧ (isAggK ty.k = true → c.cells.size = ty.size)) := by
  unfold partV at hp
  split at hp
  · rename_i ty hty
    obtain ⟨i, d, hi, hd, hk, hs, _, _, _⟩ := hτ.info hty
    split at hp
    · rename_i hagg
      split at hp
      · rename_i hle
        simp at hp
        subst hp
        have hle' : off + ty.size ≤ cs.length := by simpa using hle
        have hlen := hcs.length
        have hcs' : VRs S w ((cs.drop off).take ty.size) κ ((ca.drop off).take ty.size) := (hcs.drop off).take ty.size
        have hl2 : ((ca.drop off).take ty.size).length = ty.size := by simp; omega
        rw [hk] at hagg
        refine ⟨.agg ((ca.drop off).take ty.size).toArray, ?_, ⟨_, rfl, hcs'⟩, ?_, ?_, ⟨ty, hty, fun _ => by simpa [Value.cells] using hl2⟩⟩
        · simp only [part, Sem.run_bind, run_isAgg_k hd, hagg, Result.andThen_ok, if_true, run_sizeOf_info hi, Sem.run_pure, ← hs]
          congr 2
          apply Array.ext'
          simp [List.extract_eq_take_drop]
        · intro b o hcell
          have hld := run_loadCells_list (P := P) w ⟨b, o + off, none⟩ ((ca.drop off).take ty.size) (fun j u hj => by
            rw [addr_add, Nat.add_assoc]
            rw [getElem?_drop_take] at hj
            split at hj
            · exact hcell _ _ hj
            · cases hj)
          rw [hl2] at hld
          simp only [loadVar, Sem.run_bind, run_isAgg_k hd, hagg, Result.andThen_ok, if_true, run_sizeOf_info hi, ← hs, hld, Sem.run_pure]
        · intro h1
          refine ⟨fun j u hj => ?_, fun u hu => ?_⟩
          · simp only [Value.cells, List.getElem?_toArray, getElem?_drop_take] at hj
            split at hj
            · exact hj
            · cases hj
          · simp only [Value.cells] at hu
            exact h1 u (List.mem_of_mem_drop (List.mem_of_mem_take hu))
      · cases hp
    · rename_i hagg
      obtain ⟨c, hc, hv⟩ := hcs.get hp
      rw [hk] at hagg
      refine ⟨c, ?_, hv, ?_, ?_, ⟨ty, hty, fun h => by rw [hk, hagg] at h; cases h⟩⟩
      · simp [part, run_isAgg_k hd, hagg, hc]
      · intro b o hcell
        simp [loadVar, run_isAgg_k hd, hagg, hcell off c hc]
      · intro h1
        have hcc := oneCell_cells (h1 c (List.mem_of_getElem? hc))
        rw [hcc]
        refine ⟨fun j u hj => ?_, fun u hu => ?_⟩
        · cases j with
          | zero => simp at hj; subst hj; simpa using hc
          | succ j => simp at hj
        · simp at hu; subst hu; exact h1 u (List.mem_of_getElem? hc)
  · cases hp

end
end
#print axioms part_ok
end Go.Sy
