/-
  The evaluator's composites, slices of memory and indexes are the model's. No conditions.
-/
import Derived.Test.YtkcbdemfmjciiaaGreatDoorSyE
import Derived.Laws.MakeOwn
namespace Go.Sy

theorem fold_set (off : Nat) : ∀ (new : List Value) (k : Nat) (cells : Array Value), off + k + new.length ≤ cells.size →
    ((new.zipIdx k).foldl (fun cs (cj : Value × Nat) => cs.setIfInBounds (off + cj.2) cj.1) cells).toList = cells.toList.take (off + k) ++ new ++ cells.toList.drop (off + k + new.length)
  | [], k, cells, _ => by simp
  | v :: new, k, cells, h => by
    simp only [List.zipIdx_cons, List.foldl_cons]
    rw [fold_set off new (k + 1) (cells.setIfInBounds (off + k) v) (by simp at h ⊢; omega)]
    have := list_seg_step cells.toList (off + k) v new (by simp at h ⊢; omega)
    simpa [Nat.add_assoc] using this

theorem fold_set_arr (off : Nat) (new cells : Array Value) (h : off + new.size ≤ cells.size) :
    (new.zipIdx.foldl (fun cs (cj : Value × Nat) => cs.setIfInBounds (off + cj.2) cj.1) cells).toList = cells.toList.take off ++ new.toList ++ cells.toList.drop (off + new.size) := by
  have := fold_set off new.toList 0 cells (by simpa using h)
  simp only [Nat.add_zero, Array.length_toList] at this
  rw [← this, ← Array.foldl_toList]
  congr 2
  simp

section
variable {P : Program} {τ : List Ty} (hτ : TabOK P τ) {S : Nat → Prop} {w : World} {κ : Nat → Option Value}

theorem VRs_splice {vs new : List V} {l m : List Value} (h : VRs S w vs κ l) (hn : VRs S w new κ m) (off : Nat) :
    VRs S w (spliceV vs off new) κ (l.take off ++ m ++ l.drop (off + m.length)) := by
  unfold spliceV
  rw [List.append_assoc]
  refine (h.take off).append (hn.append ?_)
  rw [hn.length]
  exact h.drop _

/-- The parts of a composite. -/
inductive PartsR (S : Nat → Prop) (w : World) (κ : Nat → Option Value) : List (Nat × V) → List (Nat × Value) → Prop where
  | nil : PartsR S w κ [] []
  | cons {i : Nat} {v : V} {c : Value} {l : List (Nat × V)} {m : List (Nat × Value)} : VR S w v κ c → PartsR S w κ l m → PartsR S w κ ((i, v) :: l) ((i, c) :: m)

theorem fill_ok {place : Nat → Option (Nat × Nat)} : ∀ {parts : List (Nat × V)} {cparts : List (Nat × Value)} {cells out : List V} {arr : Array Value},
    fillV place cells parts = some out → PartsR S w κ parts cparts → VRs S w cells κ arr.toList →
    ∃ arr', Instr.fill place arr cparts = some arr' ∧ VRs S w out κ arr'.toList
  | [], _, cells, out, arr, h, hp, hc => by
    cases hp
    simp [fillV] at h
    subst h
    exact ⟨arr, rfl, hc⟩
  | (i, v) :: rest, _, cells, out, arr, h, hp, hc => by
    cases hp with
    | cons hv hrest =>
      rename_i c m
      simp only [fillV] at h
      split at h
      · rename_i off size cs hpl hcs
        split at h
        · rename_i h1 h2
          have h1 : cs.length = size := Nat.eq_of_beq_eq_true h1
          have h2 : off + size ≤ cells.length := by simpa using h2
          obtain ⟨hr, _⟩ := VR_cells hcs hv
          have hl := hr.length
          have hl' := hc.length
          have hsz : c.cells.size = size := by rw [← h1, ← hl]; simp
          have hb : off + c.cells.size ≤ arr.size := by simp at hl'; omega
          have hcond : ¬ (c.cells.size ≠ size || decide (off + c.cells.size > arr.size)) = true := by
            simp [hsz]
            omega
          have hf := fold_set_arr off c.cells arr hb
          obtain ⟨arr', e1, e2⟩ := fill_ok (arr := c.cells.zipIdx.foldl (fun cs (cj : Value × Nat) => cs.setIfInBounds (off + cj.2) cj.1) arr) h hrest (by
            rw [hf]
            have := VRs_splice hc hr off
            simpa using this)
          refine ⟨arr', ?_, e2⟩
          simp only [Instr.fill, hpl]
          rw [if_neg hcond]
          exact e1
        · cases h
      · cases h

include hτ in
theorem places_ok : ∀ {fs : List Field} {places : List (Nat × Nat)}, placesV τ (fs.map fun f => (f.offset, f.type)) = some places →
    (fs.mapM fun f => do pure (f.offset, ← sizeOf f.type) : Sem (List (Nat × Nat))).run P w = .ok places w
  | [], places, h => by
    simp [placesV] at h
    subst h
    simp
  | f :: fs, places, h => by
    simp only [List.map_cons, placesV] at h
    split at h
    · rename_i ty l h1 h2
      simp at h
      subst h
      obtain ⟨i, d, hi, _, _, hs, _⟩ := hτ.info h1
      have ih := places_ok h2
      simp only [List.mapM_cons, Sem.run_bind, run_sizeOf_info hi, Result.andThen_ok, Sem.run_pure, ih, hs]
    · cases h

include hτ in
theorem build_ok {t : Nat} {parts : List (Nat × V)} {cparts : Array (Nat × Value)} {v : V} (h : buildV τ t parts = some v) (hp : PartsR S w κ parts cparts.toList) :
    ∃ c, (Instr.build t cparts).run P w = .ok c w ∧ VR S w v κ c := by
  unfold buildV at h
  split at h
  · rename_i ty hty
    obtain ⟨i, d, hi, hd, hk, _, _, hz, _⟩ := hτ.info hty
    have hzero : ∀ zero, ty.zero = .agg zero → ∃ za : Array Value, i.zero = some (.agg za) ∧ VRs S w zero κ za.toList := by
      intro zero hzz
      rw [hzz] at hz
      split at hz
      · rename_i z hzi
        cases z with
        | agg za =>
          simp [ofValue] at hz
          subst hz
          exact ⟨za, hzi, VRs_leafVs _⟩
        | string s => simp [ofValue, leafV] at hz
        | slice a l c =>
          simp only [ofValue] at hz
          unfold leafV at hz
          split at hz <;> cases hz
        | _ => simp [ofValue, leafV] at hz
      · cases hz
    split at h
    · rename_i zero fs hzz hkk
      obtain ⟨za, hza, hzr⟩ := hzero zero hzz
      rw [hkk] at hk
      obtain ⟨gs, rfl, rfl⟩ := kOf_st hk.symm
      split at h
      · rename_i places hpl
        split at h
        · rename_i cs hf
          simp at h
          subst h
          obtain ⟨arr', e1, e2⟩ := fill_ok hf hp hzr
          refine ⟨.agg arr', ?_, ⟨arr'.toList, by simp, e2⟩⟩
          have hm : (gs.mapM fun f => do pure (f.offset, ← sizeOf f.type) : Sem (Array (Nat × Nat))).run P w = .ok places.toArray w := by
            rw [Array.mapM_eq_mapM_toList, Sem.run_map, places_ok (P := P) hτ hpl]
            rfl
          have e1' : Instr.fill (fun x => places.toArray[x]?) za cparts.toList = some arr' := by simpa using e1
          simp only [Instr.build, Sem.run_bind, zeroValue, typeInfo, run_program, Result.andThen_ok, hi, Sem.run_pure, hza, Value.cells, run_underlying hd, hm, e1']
        · cases h
      · cases h
    · rename_i zero n e hzz hkk
      obtain ⟨za, hza, hzr⟩ := hzero zero hzz
      rw [hkk] at hk
      have := kOf_arr hk.symm
      subst this
      split at h
      · rename_i te hte
        obtain ⟨i', d', hi', _, _, hs', _⟩ := hτ.info hte
        split at h
        · rename_i cs hf
          simp at h
          subst h
          obtain ⟨arr', e1, e2⟩ := fill_ok hf hp hzr
          refine ⟨.agg arr', ?_, ⟨arr'.toList, by simp, e2⟩⟩
          have e1' : Instr.fill (fun x => some (x * i'.size, i'.size)) za cparts.toList = some arr' := by rw [← hs']; exact e1
          simp only [Instr.build, Sem.run_bind, zeroValue, typeInfo, run_program, Result.andThen_ok, hi, Sem.run_pure, hza, Value.cells, run_underlying hd, run_sizeOf_info hi', e1']
        · cases h
      · cases h
    · cases h
  · cases h

end
end Go.Sy

