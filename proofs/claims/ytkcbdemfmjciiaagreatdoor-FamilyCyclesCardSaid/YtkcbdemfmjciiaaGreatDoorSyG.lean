/-
  The evaluator's operations on own memory are the model's: new blocks, loads, stores. No conditions.
-/
import Derived.Test.YtkcbdemfmjciiaaGreatDoorSyF
import Derived.Laws.BytesString
namespace Go.Sy

def EnvOK (Γ : Cx0) (S : Nat → Prop) (w : World) : Prop := ∀ g, VR S w (Γ.glob g) noK (.pointer (some ⟨g, 0, none⟩))

theorem noK_sub (κ : Nat → Option Value) : ∀ id c, noK id = some c → κ id = some c := fun _ _ h => by cases h

/-- What is asked of the way on from an operation: whatever world and names mean what the evaluator says. -/
def Post (a : Act) (o : Oper) (κ : Nat → Option Value) (S : Nat → Prop) (st : St) (w : World) (K : Act → World → Prop) (r : V × St) : Prop :=
  ∀ κ' S' c w', Good κ' S' r.2.h w' → VRs S' w' r.2.t κ' a.tmps.toList → VR S' w' r.1 κ' c → Ext κ S st.h w κ' S' r.2.h w' → K (a.put o.dst c) w'

section
variable {P : Program} {τ : List Ty} (hτ : TabOK P τ) {Γ : Cx0} {S : Nat → Prop} {w : World} {κ : Nat → Option Value} {st : St} {a : Act} {o : Oper}
  {K : Act → World → Prop} {Q : Exit → Act → World → Prop} {r : V × St}

theorem ev_ok (hE : EnvOK Γ S w) (ht : VRs S w st.t κ a.tmps.toList) (x : Operand) : VR S w (ev Γ st x) κ (a.eval x) := by
  cases x with
  | tmp t =>
    have := ht.nth t undef
    simpa [ev, Act.eval] using this
  | const v => exact VR_ofValue v
  | global g => exact VR.mono (fun b hb => ⟨hb, rfl⟩) _ _ _ _ (noK_sub κ) (hE g)
  | func f => exact ⟨[], rfl, rfl⟩

theorem args_ok (hE : EnvOK Γ S w) (ht : VRs S w st.t κ a.tmps.toList) : ∀ (l : List Operand), VRs S w (args Γ st l) κ (l.map a.eval)
  | [] => rfl
  | x :: l => ⟨_, _, rfl, ev_ok hE ht x, args_ok hE ht l⟩

theorem evs_ok (hE : EnvOK Γ S w) (ht : VRs S w st.t κ a.tmps.toList) : ∀ (l : List (Nat × Operand)), PartsR S w κ (evs Γ st l) (l.map fun p => (p.1, a.eval p.2))
  | [] => .nil
  | (_, x) :: l => .cons (ev_ok hE ht x) (evs_ok hE ht l)

/-- An operation that leaves the world alone. -/
theorem ok_value (hg : Good κ S st.h w) (ht : VRs S w st.t κ a.tmps.toList) {v : V} {c : Value} (hrun : (execOp a.eval o).run P w = .ok (.value c) w) (hv : VR S w v κ c)
    (hp : Post a o κ S st w K (v, st)) : o.wp P a w K Q := by
  unfold Oper.wp
  rw [hrun]
  exact hp κ S c w hg ht hv (Ext.refl _ _ _ _)

/-- An operation that makes a block. -/
theorem ok_new (hg : Good κ S st.h w) (ht : VRs S w st.t κ a.tmps.toList) {b : Blk} {v : Nat → V} {c : Value} {w' : World} (hrun : (execOp a.eval o).run P w = .ok (.value c) w')
    (hw : ∀ k, k < w.heap.size → w'.heap[k]? = w.heap[k]?) (hsz : w.heap.size ≤ w'.heap.size) (hos : w'.os = w.os) (htape : w'.tape = w.tape) (hout : w'.output = w.output)
    (hB : Holds S w' (addK κ st.h.length c) (some c) b) (hc : blockOf (some c) = none ∨ blockOf (some c) = some w.heap.size)
    (hv : VR S w' (v st.h.length) (addK κ st.h.length c) c) (h : (newBlk st b v).sem = some r) (hp : Post a o κ S st w K r) (hnx : ∀ e s n g, b ≠ .xrow false e s n g := by simp) : o.wp P a w K Q := by
  have hr := sem_leaf h
  subst hr
  unfold Oper.wp
  rw [hrun]
  refine hp (addK κ st.h.length c) S c w' (hg.push b c hw hsz hB hc) ?_ hv (Ext.push b c hw hsz hos htape hout hc hnx)
  exact VR.mono_go (fun b hb => ⟨hb, hw b (hg.out b hb).1⟩) _ _ _ _ (hg.addK_sub c) ht

/-- The same where the block's own name means something else than what the operation yields. -/
theorem ok_newG (hg : Good κ S st.h w) (ht : VRs S w st.t κ a.tmps.toList) {b : Blk} {v : Nat → V} {c k : Value} {w' : World} (hrun : (execOp a.eval o).run P w = .ok (.value c) w')
    (hw : ∀ k, k < w.heap.size → w'.heap[k]? = w.heap[k]?) (hsz : w.heap.size ≤ w'.heap.size) (hos : w'.os = w.os) (htape : w'.tape = w.tape) (hout : w'.output = w.output)
    (hB : Holds S w' (addK κ st.h.length k) (some k) b) (hc : blockOf (some k) = none ∨ blockOf (some k) = some w.heap.size)
    (hv : VR S w' (v st.h.length) (addK κ st.h.length k) c) (h : (newBlk st b v).sem = some r) (hp : Post a o κ S st w K r) (hnx : ∀ e s n g, b ≠ .xrow false e s n g := by simp) : o.wp P a w K Q := by
  have hr := sem_leaf h
  subst hr
  unfold Oper.wp
  rw [hrun]
  refine hp (addK κ st.h.length k) S c w' (hg.push b k hw hsz hB hc) ?_ hv (Ext.push b k hw hsz hos htape hout hc hnx)
  exact VR.mono_go (fun b hb => ⟨hb, hw b (hg.out b hb).1⟩) _ _ _ _ (hg.addK_sub k) ht

theorem falses_spec {S : Nat → Prop} {w : World} {κ : Nat → Option Value} : ∀ (n : Nat) (cs : List V) (ca : List Value), falses cs n = true → VRs S w cs κ ca → ca = List.replicate n (.bool false)
  | 0, cs, ca, h, hv => by
    unfold falses at h
    split at h
    · exact hv
    · rename_i hn _
      omega
    · cases h
  | n + 1, cs, ca, h, hv => by
    unfold falses at h
    split at h
    · rename_i hn
      omega
    · rename_i l m hm
      obtain ⟨c, l', rfl, h1, h2⟩ := hv
      have hm : m = n := by omega
      subst hm
      rw [show c = .bool false from h1, falses_spec m l l' h h2]
      rfl
    · cases h

theorem alloc_heap (w : World) (ob : Obj) : ∀ k, k < w.heap.size → (w.alloc ob).heap[k]? = w.heap[k]? := fun k hk => heap_alloc_old w ob k hk

/-- A variable of its own. -/
theorem ok_var (hg : Good κ S st.h w) (ht : VRs S w st.t κ a.tmps.toList) {x : V} {cx : Value} {cs : List V} {t : TypeId} (hx : VR S w x κ cx) (hcs : x.cells = some cs)
    (hrun : (execOp a.eval o).run P w = .ok (.value (.pointer (some ⟨w.heap.size, 0, none⟩))) (w.alloc (.cells cx.cells t)))
    (h : (newBlk st (.cells cs) (.ptr · 0)).sem = some r) (hp : Post a o κ S st w K r) : o.wp P a w K Q := by
  have hw := alloc_heap w (.cells cx.cells t)
  have hS : ∀ b, S b → S b ∧ (w.alloc (.cells cx.cells t)).heap[b]? = w.heap[b]? := fun b hb => ⟨hb, hw b (hg.out b hb).1⟩
  refine ok_new (v := (V.ptr · 0)) hg ht hrun hw (by simp) rfl rfl rfl ?_ (.inr rfl) ⟨w.heap.size, by simp [addK], rfl⟩ h hp
  exact ⟨w.heap.size, t, cx.cells, rfl, heap_alloc_new w _, VR.mono_go hS _ _ _ _ (hg.addK_sub _) (VR_cells hcs hx).1⟩

/-- A great array of bools of its own. -/
theorem ok_big (hg : Good κ S st.h w) (ht : VRs S w st.t κ a.tmps.toList) {x : V} {cx : Value} {cs : List V} {t : TypeId} {n : Nat} (hx : VR S w x κ cx) (hcs : x.cells = some cs) (hn : n ≤ 1000000) (hf : falses cs n = true)
    (hrun : (execOp a.eval o).run P w = .ok (.value (.pointer (some ⟨w.heap.size, 0, none⟩))) (w.alloc (.cells cx.cells t)))
    (h : (newBlk st (.row t 1 n fun _ => bV false) fun id => .ept id 1 0 0).sem = some r) (hp : Post a o κ S st w K r) : o.wp P a w K Q := by
  have hw := alloc_heap w (.cells cx.cells t)
  have hca := falses_spec n cs _ hf (VR_cells hcs hx).1
  have hsz : cx.cells.size = n := by
    have := congrArg List.length hca
    simpa using this
  refine ok_newG (v := fun id => V.ept id 1 0 0) (k := .slice (some ⟨w.heap.size, 0, none⟩) n n) hg ht hrun hw (by simp) rfl rfl rfl ?_ (.inr rfl) ⟨w.heap.size, n, n, by simp [addK], rfl⟩ h hp
  refine ⟨by omega, _, cx.cells.toList, rfl, ⟨by simp [hsz], .inr ⟨w.heap.size, n, cx.cells, rfl, Nat.zero_le _, heap_alloc_new w _, Nat.le_refl _, ?_, by simp [hsz], by rw [List.take_of_length_le (by simp [hsz])]⟩⟩, ?_⟩
  · unfold maxLen; omega
  · intro i hi
    refine ⟨.bool false, rfl, rfl, fun u hu => ?_, fun j hj => ?_⟩
    · have hu : u ∈ [Value.bool false] := hu
      simp only [List.mem_singleton] at hu
      subst hu
      rfl
    · have hj : j = 0 := by omega
      subst hj
      rw [hca]
      simp [hi, Value.cells]

theorem move_ok (hg : Good κ S st.h w) (ht : VRs S w st.t κ a.tmps.toList) {x : V} {cx : Value} (hx : VR S w x κ cx) (hrun : (execOp a.eval o).run P w = .ok (.value cx) w)
    (h : (moveV τ st o.type x).sem = some r) (hp : Post a o κ S st w K r) : o.wp P a w K Q := by
  have same : r = (x, st) → o.wp P a w K Q := fun e => by
    subst e
    exact ok_value hg ht hrun hx hp
  unfold moveV at h
  split at h
  · have hcx : cx = .slice none 0 0 := hx
    subst hcx
    split at h
    · split at h
      · split at h
        · rename_i te hte
          split at h
          · rename_i hpos
            refine ok_new (v := V.ref) hg ht hrun (fun _ _ => rfl) (Nat.le_refl _) rfl rfl rfl ?_ (.inl rfl) ⟨by simp [addK], .inl ⟨none, 0, 0, rfl⟩⟩ h hp
            exact ⟨by simpa using hpos, _, [], rfl, World.ownsRow_nil w 0 _ _, fun i hi => absurd hi (Nat.not_lt_zero _)⟩
          · exact same (sem_leaf h)
        · exact same (sem_leaf h)
      · exact same (sem_leaf h)
    · exact same (sem_leaf h)
  · exact same (sem_leaf h)

/-- What lies behind an address that a value tells. -/
theorem blk_cells (hg : Good κ S st.h w) {id off : Nat} {cs : List V} {cx : Value} (hh : st.h[id]? = some (.cells cs)) (hx : VR S w (.ptr id off) κ cx) :
    ∃ g e ca, κ id = some (.pointer (some ⟨g, 0, none⟩)) ∧ cx = .pointer (some ⟨g, off, none⟩) ∧ w.heap[g]? = some (.cells ca e (0, 0)) ∧ VRs S w cs κ ca.toList := by
  obtain ⟨g, hk, e⟩ := hx
  obtain ⟨g', e', ca, hk', hw, hr⟩ := hg.blk id _ hh
  rw [hk] at hk'
  simp at hk'
  subst hk'
  exact ⟨g, e', ca, hk, e, hw, hr⟩

theorem blk_row (hg : Good κ S st.h w) {id e s n : Nat} {g : Nat → V} (hh : st.h[id]? = some (.row e s n g)) :
    0 < s ∧ ∃ c xs, κ id = some c ∧ w.ownsRow 0 e s c n xs ∧ Elems S w s n g xs := hg.blk id _ hh

theorem blk_x (hg : Good κ S st.h w) {id e s n : Nat} {b : Blk} {g : Nat → V} (hh : st.h[id]? = some b) (hb : IsRow b e s n g) :
    0 < s ∧ ∃ c xs, κ id = some c ∧ w.ownsRow 0 e s c n xs ∧ Elems S w s n g xs := hb.holds (hg.blk id _ hh)

theorem set_fix {h : List Blk} {id : Nat} {b b' : Blk} (hh : h[id]? = some b) (hb : ∀ e s n g, b' = .xrow false e s n g → ∃ g0, b = .xrow false e s n g0) :
    ∀ e s n g, (h.set id b')[id]? = some (.xrow false e s n g) → ∃ g0, h[id]? = some (.xrow false e s n g0) := by
  intro e s n g hx
  rw [List.getElem?_set_self (List.getElem?_eq_some_iff.1 hh).1] at hx
  simp only [Option.some.injEq] at hx
  obtain ⟨g0, e0⟩ := hb e s n g hx
  exact ⟨g0, by rw [hh, e0]⟩

/-- An own row that has elements lies in a block. -/
theorem row_form {e s n : Nat} {c : Value} {xs : List Value} (ho : w.ownsRow 0 e s c n xs) (hn : 0 < n) :
    ∃ g cap cur, c = .slice (some ⟨g, 0, none⟩) n cap ∧ w.heap[g]? = some (.cells cur e (0, 0)) ∧ n ≤ cap ∧ cap ≤ maxLen ∧ cur.size = cap * s ∧ cur.toList.take (n * s) = xs := by
  rcases ho.2 with ⟨_, h0⟩ | ⟨g, cap, cur, hv, _, hg, h1, h2, h3, h4⟩
  · omega
  · exact ⟨g, cap, cur, hv, hg, h1, h2, h3, h4⟩

include hτ in
theorem load_ok (hg : Good κ S st.h w) {t : TypeId} {x r : V} {cx : Value} (hx : VR S w x κ cx)
    (h : (loadV τ st t x).sem = some r) : ∃ c, (Instr.loadAt t cx).run P w = .ok c w ∧ VR S w r κ c := by
  have fin : ∀ (v : V) (c : Value), r = v → (Instr.loadAt t cx).run P w = .ok c w → VR S w v κ c → ∃ c, (Instr.loadAt t cx).run P w = .ok c w ∧ VR S w r κ c := fun v c e hr hv => by
    subst e
    exact ⟨c, hr, hv⟩
  unfold loadV at h
  split at h
  · rename_i id off
    split at h
    · rename_i cs hh
      split at h
      · rename_i v hv
        obtain ⟨g, e, ca, _, hcx, hgw, hr⟩ := blk_cells hg hh hx
        obtain ⟨c, _, h2, h3, _⟩ := part_ok (P := P) hτ hv hr
        refine fin v c (sem_leaf h) ?_ h2
        subst hcx
        have := h3 g 0 (fun j u hj => by
          rw [Nat.zero_add, cell_of_row w g j ca e (0, 0) hgw]
          simpa using hj)
        simp only [Nat.zero_add] at this
        simp only [Instr.loadAt, Instr.sureAddr, Sem.run_bind, Sem.run_pure, Result.andThen_ok, this]
      · cases h
    · cases h
  · rename_i v0
    split at h
    · rename_i v hv
      obtain ⟨b, o', cv, hcx, h1, h2⟩ := hx
      unfold partOf at hv
      split at hv
      · rename_i cs hcs
        obtain ⟨hr, _⟩ := VR_cells hcs h1
        obtain ⟨c, _, h3, h4, _⟩ := part_ok (P := P) hτ hv hr
        refine fin v c (sem_leaf h) ?_ (VR.mono (fun b hb => ⟨hb, rfl⟩) _ _ _ _ (noK_sub κ) h3)
        subst hcx
        have := h4 b o' (fun j u hj => (h2 j u hj).2)
        simp only [Nat.add_zero] at this
        simp only [Instr.loadAt, Instr.sureAddr, Sem.run_bind, Sem.run_pure, Result.andThen_ok, this]
      · cases hv
    · cases h
  · rename_i id s i off
    split at h
    · rename_i e s' n g hh
      split at h
      · rename_i v hs hv
        have hs : s = s' := Nat.eq_of_beq_eq_true hs
        subst hs
        obtain ⟨h1, h2⟩ := sem_br_fail h
        have hin : i < n := by simpa [nlt] using h1
        obtain ⟨_, c0, xs, hk, ho, he⟩ := blk_row hg hh
        obtain ⟨gb, cap, cur, rfl, hgw, hnc, _, hsz, htake⟩ := row_form ho (by omega)
        obtain ⟨gb', n', cap', hk', hcx⟩ := hx
        rw [hk] at hk'
        simp at hk'
        obtain ⟨rfl, _⟩ := hk'
        obtain ⟨ci, h3, h4, h5, h6⟩ := he i hin
        unfold partOf at hv
        split at hv
        · rename_i cs hcs
          obtain ⟨hr, _⟩ := VR_cells hcs h3
          obtain ⟨c, _, h7, h8, _⟩ := part_ok (P := P) hτ hv hr
          refine fin v c (sem_leaf h2) ?_ (VR.mono (fun b hb => ⟨hb, rfl⟩) _ _ _ _ (noK_sub κ) h7)
          subst hcx
          have := h8 gb (i * s) (fun j u hj => by
            rw [cell_of_row w gb _ cur e (0, 0) hgw]
            have hj' : j < s := by
              have := (List.getElem?_eq_some_iff.1 hj).1
              simp at this; omega
            have hx := h6 j hj'
            rw [← htake] at hx
            have hlt : i * s + j < n * s := by
              have : (i + 1) * s ≤ n * s := Nat.mul_le_mul_right _ hin
              rw [Nat.add_mul] at this
              omega
            rw [List.getElem?_take, if_pos hlt] at hx
            simp only [Array.getElem?_toList] at hx hj
            rw [hx]
            exact hj)
          simp only [Instr.loadAt, Instr.sureAddr, Sem.run_bind, Sem.run_pure, Result.andThen_ok, this]
        · cases hv
      · cases h
    · cases h
  · cases h

include hτ in
theorem convS_ok (hg : Good κ S st.h w) {src dst : Nat} {x v : V} {cx : Value} (h : (convS τ st src dst x).sem = some v) (hx : VR S w x κ cx) : ∃ c, (convert src dst cx).run P w = .ok c w ∧ VR S w v κ c := by
  unfold convS at h
  split at h
  · rename_i id
    split at h
    · rename_i ts td hts htd
      obtain ⟨_, d1, _, hd1, hk1, _⟩ := hτ.info hts
      obtain ⟨_, d2, _, hd2, hk2, _⟩ := hτ.info htd
      split at h
      · rename_i e hks hkd
        rw [hks] at hk1
        rw [hkd] at hk2
        have := kOf_sl hk1.symm
        subst this
        have := kOf_str hk2.symm
        subst this
        split at h
        · rename_i te e' g hte hh
          obtain ⟨_, d3, _, hd3, hk3, _⟩ := hτ.info hte
          split at h
          · rename_i b hke hgb
            rw [hke] at hk3
            have := kOf_int hk3.symm
            subst this
            rw [sem_leaf h]
            obtain ⟨_, c0, xs, hk0, ho, he⟩ := blk_row hg hh
            obtain ⟨hk', _⟩ := hx
            rw [hk0] at hk'
            simp at hk'
            subst hk'
            obtain ⟨gb, cap, cur, rfl, hgw, hnc, hcm, hcsz, htake⟩ := row_form ho (by omega)
            obtain ⟨ci, q1, q2, q3, q4⟩ := he 0 (by omega)
            rw [hgb] at q1
            have q1 : ci = .int .u8 b := q1
            subst q1
            have q5 := q4 0 (by omega)
            have hl : xs.length = 1 := ho.1
            have hxs : xs = [Value.int .u8 b] := by
              match xs, hl with
              | [u], _ =>
                have q5 : some u = some (Value.int .u8 b) := q5
                simp only [Option.some.injEq] at q5
                rw [q5]
            have hld := run_loadCells_list (P := P) w ⟨gb, 0, none⟩ [Value.int .u8 b] (fun j u hj => by
              rw [addr_add, Nat.zero_add, cell_of_row w gb j cur e' (0, 0) hgw, ← Array.getElem?_toList]
              rw [← hxs, ← htake, List.getElem?_take] at hj
              split at hj
              · exact hj
              · cases hj)
            refine ⟨.string ⟨[byteOf b].toArray⟩, ?_, rfl⟩
            rw [run_convert_bytes_string w src dst e _ 1 cap hd1 hd3 hd2, run_bytesToString w _ 1 cap [b] hld]
            rfl
          · cases h
        · cases h
      · cases h
    · cases h
  · exact convV_ok hτ h hx

end
end Go.Sy

