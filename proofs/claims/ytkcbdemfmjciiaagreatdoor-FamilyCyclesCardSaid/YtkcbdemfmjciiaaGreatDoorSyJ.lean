/-
  The evaluator's slices, indexes, fields and literals of slices are the model's. No conditions.
-/
import Derived.Test.YtkcbdemfmjciiaaGreatDoorSyI
namespace Go.Sy

/-- What an operation that leaves all as it is comes to. -/
def Same (P : Program) (a : Act) (o : Oper) (S : Nat → Prop) (w : World) (κ : Nat → Option Value) (v : V) : Prop :=
  ∃ c, (execOp a.eval o).run P w = .ok (.value c) w ∧ VR S w v κ c

section
variable {P : Program} {τ : List Ty} (hτ : TabOK P τ) {Γ : Cx0} {S : Nat → Prop} {w : World} {κ : Nat → Option Value} {st : St} {a : Act} {o : Oper}
  {K : Act → World → Prop} {Q : Exit → Act → World → Prop} {r : V × St}

theorem same_ok (hg : Good κ S st.h w) (ht : VRs S w st.t κ a.tmps.toList) {v : V} (h : Same P a o S w κ v) (hr : r = (v, st)) (hp : Post a o κ S st w K r) : o.wp P a w K Q := by
  subst hr
  obtain ⟨c, h1, h2⟩ := h
  exact ok_value hg ht h1 h2 hp

theorem toN_nat (i : Int) (h : 0 ≤ i) : ((toN i : Nat) : Int) = i := Int.toNat_of_nonneg h

theorem pickAt_ok {α : Type} {i : Int} {f : Nat → T α} {x : α} : ∀ {n k : Nat}, (pickAt i f n k).sem = some x → ∃ j, k ≤ j ∧ j < k + n ∧ i = (j : Int) ∧ (f j).sem = some x
  | 0, _, h => by cases h
  | n + 1, k, h => by
    simp only [pickAt, T.sem, sel] at h
    cases hb : ieq i (Int.ofNat k)
    · rw [hb] at h
      obtain ⟨j, h1, h2, h3, h4⟩ := pickAt_ok (n := n) (k := Nat.succ k) h
      exact ⟨j, by omega, by omega, h3, h4⟩
    · rw [hb] at h
      have : i = Int.ofNat k := by simpa [ieq] using hb
      exact ⟨k, Nat.le_refl _, by omega, this, h⟩

theorem litBelow_ok {i : Int} {n : Nat} (h : litBelow i n = true) : 0 ≤ i ∧ i < (n : Int) := by
  cases i with
  | ofNat k =>
    have : k < n := by simpa [litBelow] using h
    exact ⟨Int.natCast_nonneg k, by exact Int.ofNat_lt.2 this⟩
  | negSucc k => cases h

theorem band_ok {x y : Bool} (h : band x y = true) : x = true ∧ y = true := by simpa [band] using h
theorem ile_ok {x y : Int} (h : ile x y = true) : x ≤ y := by simpa [ile] using h
theorem ilt_ok {x y : Int} (h : ilt x y = true) : x < y := by simpa [ilt] using h

include hτ in
/-- A part of what lies behind a pointer lies behind a pointer. -/
theorem pp_part {t off : Nat} {v0 v : V} {b o' : Nat} {cv : Value} (h : partOf τ t v0 off = some v) (h1 : VR S w v0 (fun _ => none) cv) (h2 : At S w b o' cv.cells.toList) :
    VR S w (.pp v) κ (.pointer (some ⟨b, o' + off, none⟩)) := by
  unfold partOf at h
  split at h
  · rename_i cs hcs
    obtain ⟨hr, hone⟩ := VR_cells hcs h1
    obtain ⟨c, _, h3, _, h5, _⟩ := part_ok (P := P) hτ h hr
    refine ⟨b, o' + off, c, rfl, h3, fun j u hj => ?_⟩
    have := (h5 hone).1 j u (by simpa using hj)
    have := h2 (off + j) u this
    rwa [← Nat.add_assoc] at this
  · cases h

include hτ in
theorem fieldAddr_ok {s f : Nat} {x : V} {cx : Value} (hx : VR S w x κ cx) (hrun : (execOp a.eval o).run P w = ((Instr.fieldAt s cx f).run P w).andThen fun v w' => .ok (.value v) w')
    {r : V} (h : (fieldAddrV τ s f x).sem = some r) : Same P a o S w κ r := by
  unfold fieldAddrV at h
  split at h
  · rename_i ty hty
    obtain ⟨_, d, _, hd, hk, _⟩ := hτ.info hty
    split at h
    · rename_i fs hkk
      rw [hkk] at hk
      obtain ⟨gs, rfl, rfl⟩ := kOf_st hk.symm
      split at h
      · rename_i off ft hf
        obtain ⟨fd, hfd, e1, e2⟩ : ∃ fd : Field, gs[f]? = some fd ∧ fd.offset = off ∧ fd.type = ft := by
          simp at hf
          obtain ⟨fd, h1, h2, h3⟩ := hf
          exact ⟨fd, h1, h2, h3⟩
        split at h
        · rename_i te hte
          obtain ⟨i, _, hi, _, _, hs, _⟩ := hτ.info hte
          split at h
          · rename_i hpos
            have hpos : 0 < i.size := by rw [← hs]; simpa using hpos
            have place : ∀ g o', cx = .pointer (some ⟨g, o', none⟩) → (execOp a.eval o).run P w = .ok (.value (.pointer (some ⟨g, o' + off, none⟩))) w := by
              intro g o' hcx
              rw [hrun, hcx]
              have hsz := run_sizeOf_info (t := fd.type) (by rw [e2]; exact hi) w
              have hne : ¬ i.size = 0 := by omega
              simp only [Instr.fieldAt, Sem.run_bind, run_underlying hd, Result.andThen_ok, hfd, Instr.sureAddr, Sem.run_pure, fieldPlace, hsz, if_neg hne, Sem.run_ite, addr_add, e1]
            split at h
            · rename_i id o'
              obtain ⟨g, hk1, hcx⟩ := hx
              rw [sem_leaf h]
              exact ⟨_, place g o' hcx, g, hk1, rfl⟩
            · rename_i id s' i' o'
              obtain ⟨g, n, cap, hk1, hcx⟩ := hx
              rw [sem_leaf h]
              exact ⟨_, place g _ hcx, g, n, cap, hk1, by rw [Nat.add_assoc]; rfl⟩
            · rename_i v0
              split at h
              · rename_i v hv
                obtain ⟨b, o', cv, hcx, h1, h2⟩ := hx
                rw [sem_leaf h]
                exact ⟨_, place b o' hcx, pp_part (P := P) hτ hv h1 h2⟩
              · cases h
            · cases h
          · cases h
        · cases h
      · cases h
    · cases h
  · cases h

include hτ in
theorem field_ok {s f : Nat} {x v : V} {cx : Value} (hx : VR S w x κ cx) (hrun : (execOp a.eval o).run P w = ((Instr.field s cx f).run P w).andThen fun v w' => .ok (.value v) w')
    (h : (fieldV τ s f x).sem = some v) : Same P a o S w κ v := by
  unfold fieldV at h
  split at h
  · rename_i ty hty
    obtain ⟨_, d, _, hd, hk, _⟩ := hτ.info hty
    split at h
    · rename_i fs cs hkk
      rw [hkk] at hk
      obtain ⟨gs, rfl, rfl⟩ := kOf_st hk.symm
      split at h
      · rename_i off ft hf
        obtain ⟨fd, hfd, e1, e2⟩ : ∃ fd : Field, gs[f]? = some fd ∧ fd.offset = off ∧ fd.type = ft := by
          simp at hf
          obtain ⟨fd, h1, h2, h3⟩ := hf
          exact ⟨fd, h1, h2, h3⟩
        obtain ⟨ca, rfl, hr⟩ := hx
        obtain ⟨c, h1, h2, _⟩ := part_ok (P := P) hτ (sem_ofOpt h) hr
        refine ⟨c, ?_, h2⟩
        rw [hrun]
        simp only [Instr.field, Sem.run_bind, run_underlying hd, Result.andThen_ok, hfd, asAgg, Sem.run_pure, e1, e2, h1]
      · cases h
    · cases h
  · cases h

include hτ in
theorem len_ok (hg : Good κ S st.h w) {t : Nat} {x v : V} {cx : Value} (hx : VR S w x κ cx) (h : (lenV τ st t x).sem = some v) (ty : TypeId) :
    ∃ c, (Builtin.len_ #[t] ty #[cx]).run P w = .ok c w ∧ VR S w v κ c := by
  unfold lenV at h
  split at h
  · rename_i ty' hty
    obtain ⟨_, d, _, hd, hk, _⟩ := hτ.info hty
    have hu := run_underlying hd w
    split at h
    · rename_i l hkk
      rw [hkk] at hk
      have := kOf_str hk.symm
      subst this
      rw [sem_leaf h, VR_str hx]
      exact ⟨_, by simp [Builtin.len_, hu, goInt]; rfl, rfl⟩
    · rename_i e s n g hkk
      rw [hkk] at hk
      have := kOf_sl hk.symm
      subst this
      obtain ⟨b, cap, rfl, _⟩ := hx
      rw [sem_leaf h]
      exact ⟨_, by simp [Builtin.len_, hu, goInt], rfl⟩
    · rename_i e hkk
      rw [hkk] at hk
      have := kOf_sl hk.symm
      subst this
      rw [sem_leaf h, show cx = .slice none 0 0 from hx]
      exact ⟨_, by simp [Builtin.len_, hu, goInt], rfl⟩
    · rename_i e id hkk
      rw [hkk] at hk
      have := kOf_sl hk.symm
      subst this
      split at h
      · rename_i e' s n g hh
        rw [sem_leaf h]
        obtain ⟨_, c0, xs, hk0, ho, _⟩ := blk_row hg hh
        obtain ⟨hk', _⟩ := hx
        rw [hk0] at hk'
        simp at hk'
        subst hk'
        have hsl : ∃ base cap, c0 = .slice base n cap := by
          rcases ho.2 with ⟨rfl, h0⟩ | ⟨g', cap, cur, rfl, _⟩
          · exact ⟨none, 0, by rw [h0]⟩
          · exact ⟨_, cap, rfl⟩
        obtain ⟨base, cap, rfl⟩ := hsl
        exact ⟨_, by simp [Builtin.len_, hu, goInt], rfl⟩
      · rename_i lk e' s n g hh
        rw [sem_leaf h]
        obtain ⟨_, c0, xs, hk0, ho, _⟩ := blk_x hg hh (.inr ⟨_, rfl⟩)
        obtain ⟨hk', _⟩ := hx
        rw [hk0] at hk'
        simp at hk'
        subst hk'
        have hsl : ∃ base cap, c0 = .slice base n cap := by
          rcases ho.2 with ⟨rfl, h0⟩ | ⟨g', cap, cur, rfl, _⟩
          · exact ⟨none, 0, by rw [h0]⟩
          · exact ⟨_, cap, rfl⟩
        obtain ⟨base, cap, rfl⟩ := hsl
        exact ⟨_, by simp [Builtin.len_, hu, goInt], rfl⟩
      · cases h
    · rename_i n e hkk
      rw [hkk] at hk
      have := kOf_arr hk.symm
      subst this
      rw [sem_leaf h]
      exact ⟨_, by simp [Builtin.len_, hu, goInt], rfl⟩
    · cases h
  · cases h

theorem run_asIntOf (k : IntKind) (i : Int) : (asIntOf (.int k i)).run P w = .ok (k, i) w := rfl

theorem run_index_sl {t e : Nat} {te : TypeInfo} {n cap : Nat} {b o' : Nat} {k : IntKind} {i : Int} (hd : P.underlying t = some (.slice e)) (hte : P.info? e = some te) (h0 : 0 ≤ i) (h1 : i < (n : Int)) :
    (Instr.indexAt t (.slice (some ⟨b, o', none⟩) n cap) (.int k i)).run P w = .ok (.pointer (some ⟨b, o' + i.toNat * te.size, none⟩)) w := by
  simp only [Instr.indexAt, Sem.run_bind, run_asIntOf, Result.andThen_ok, run_underlying hd, Sem.run_pure]
  rw [if_pos ⟨h0, h1⟩]
  simp only [Sem.run_bind, run_sizeOf_info hte, Result.andThen_ok, Sem.run_pure, addr_add]

theorem run_index_arr {t e : Nat} {te : TypeInfo} {n : Nat} {b o' : Nat} {k : IntKind} {i : Int} (hd : P.underlying t = some (.array n e)) (hte : P.info? e = some te) (h0 : 0 ≤ i) (h1 : i < (n : Int)) :
    (Instr.indexAt t (.pointer (some ⟨b, o', none⟩)) (.int k i)).run P w = .ok (.pointer (some ⟨b, o' + i.toNat * te.size, none⟩)) w := by
  simp only [Instr.indexAt, Sem.run_bind, run_asIntOf, Result.andThen_ok, run_underlying hd, Sem.run_pure, Instr.sureAddr]
  rw [if_pos ⟨h0, h1⟩]
  simp only [Sem.run_bind, run_sizeOf_info hte, Result.andThen_ok, Sem.run_pure, addr_add]

include hτ in
theorem indexAddr_ok (hg : Good κ S st.h w) {t : Nat} {lit : Bool} {x y : V} {cx cy : Value} (hx : VR S w x κ cx) (hy : VR S w y κ cy)
    (hrun : (execOp a.eval o).run P w = ((Instr.indexAt t cx cy).run P w).andThen fun v w' => .ok (.value v) w')
    {r : V} (h : (indexAddrV τ st t lit x y).sem = some r) : Same P a o S w κ r := by
  unfold indexAddrV at h
  split at h
  · rename_i k i ty hty
    rw [VR_val hy] at hrun
    obtain ⟨_, d, _, hd, hk, _⟩ := hτ.info hty
    split at h
    · rename_i e hkk
      rw [hkk] at hk
      have := kOf_sl hk.symm
      subst this
      split at h
      · rename_i te hte
        obtain ⟨ti, _, hti, _, _, hts, _⟩ := hτ.info hte
        split at h
        · rename_i s n g
          split at h
          · rename_i hs
            have hs : s = te.size := Nat.eq_of_beq_eq_true hs
            obtain ⟨hb, h2⟩ := sem_br_fail h
            obtain ⟨hb1, hb2⟩ := band_ok hb
            have hb1 := ile_ok hb1
            have hb2 : i < (n : Int) := ilt_ok hb2
            obtain ⟨ay, cap, rfl, _, hel⟩ := hx
            have hlt : toN i < n := by unfold toN; omega
            rcases hel with h0 | ⟨b, o', rfl, hel⟩
            · omega
            · obtain ⟨ci, q1, q2, q3, q4⟩ := hel (toN i) hlt
              rw [sem_leaf h2]
              refine ⟨_, ?_, ⟨b, o' + toN i * s, ci, rfl, q1, q4⟩⟩
              rw [hrun, run_index_sl hd hti hb1 hb2, hs, hts]
              rfl
          · cases h
        · rename_i id
          split at h
          · rename_i e' s n g hh
            split at h
            · rename_i hs
              have hs : s = te.size := Nat.eq_of_beq_eq_true hs
              obtain ⟨hb, h2⟩ := sem_br_fail h
              obtain ⟨hb1, hb2⟩ := band_ok hb
              have hb1 := ile_ok hb1
              have hb2 : i < (n : Int) := ilt_ok hb2
              obtain ⟨_, c0, xs, hk0, ho, _⟩ := blk_row hg hh
              obtain ⟨hk', _⟩ := hx
              rw [hk0] at hk'
              simp at hk'
              subst hk'
              obtain ⟨gb, cap, cur, rfl, _⟩ := row_form ho (by omega)
              rw [sem_leaf h2]
              refine ⟨_, ?_, ⟨gb, n, cap, hk0, rfl⟩⟩
              rw [hrun, run_index_sl hd hti hb1 hb2, hs, hts, Nat.zero_add]
              rfl
            · cases h
          · rename_i e' s n g hh
            split at h
            · rename_i hs
              have hs : s = te.size := Nat.eq_of_beq_eq_true hs
              obtain ⟨hb, h2⟩ := sem_br_fail h
              obtain ⟨hb1, hb2⟩ := band_ok hb
              have hb1 := ile_ok hb1
              have hb2 : i < (n : Int) := ilt_ok hb2
              obtain ⟨_, c0, xs, hk0, ho, _⟩ := blk_x hg hh (.inr ⟨_, rfl⟩)
              obtain ⟨hk', _⟩ := hx
              rw [hk0] at hk'
              simp at hk'
              subst hk'
              obtain ⟨gb, cap, cur, rfl, _⟩ := row_form ho (by omega)
              rw [sem_leaf h2]
              refine ⟨_, ?_, ⟨gb, n, cap, hk0, rfl⟩⟩
              rw [hrun, run_index_sl hd hti hb1 hb2, hs, hts, Nat.zero_add]
              rfl
            · cases h
          · cases h
        · cases h
      · cases h
    · rename_i len e hkk
      rw [hkk] at hk
      have := kOf_arr hk.symm
      subst this
      split at h
      · rename_i te hte
        obtain ⟨ti, _, hti, _, _, hts, _⟩ := hτ.info hte
        split at h
        · rename_i id off
          obtain ⟨g, hk0, hcx⟩ := hx
          have fin : ∀ (j : Nat), 0 ≤ i → i < (len : Int) → j = toN i → r = .ptr id (Nat.add off (Nat.mul j te.size)) → Same P a o S w κ r := by
            intro j h0 h1 hj hr
            rw [hr]
            refine ⟨_, ?_, ⟨g, hk0, rfl⟩⟩
            rw [hrun, hcx, run_index_arr hd hti h0 h1, hj, hts]
            rfl
          split at h
          · split at h
            · rename_i hl
              obtain ⟨l1, l2⟩ := litBelow_ok hl
              exact fin _ l1 l2 rfl (sem_leaf h)
            · cases h
          · obtain ⟨j, j1, j2, j3, j4⟩ := pickAt_ok h
            exact fin j (by omega) (by omega) (by unfold toN; omega) (sem_leaf j4)
        · rename_i v0
          obtain ⟨b, o', cv, hcx, q1, q2⟩ := hx
          have fin : ∀ (j : Nat) (v : V), 0 ≤ i → i < (len : Int) → j = toN i → partOf τ e v0 (Nat.mul j te.size) = some v → r = .pp v → Same P a o S w κ r := by
            intro j v h0 h1 hj hv hr
            rw [hr]
            refine ⟨_, ?_, pp_part (P := P) hτ hv q1 q2⟩
            rw [hrun, hcx, run_index_arr hd hti h0 h1, hj, hts]
            rfl
          split at h
          · split at h
            · rename_i hl
              obtain ⟨l1, l2⟩ := litBelow_ok hl
              split at h
              · rename_i v hv
                exact fin _ v l1 l2 rfl hv (sem_leaf h)
              · cases h
            · cases h
          · split at h
            · rename_i ps hl hps
              obtain ⟨hb, h2⟩ := sem_br_fail h
              obtain ⟨hb1, hb2⟩ := band_ok hb
              have hb1 := ile_ok hb1
              have hb2 : i < (len : Int) := ilt_ok hb2
              obtain ⟨p1, p2⟩ := partsN_some hps
              have hj : toN i < len := by unfold toN; omega
              have hp := p2 (toN i) hj
              rw [Nat.zero_add] at hp
              exact fin (toN i) _ hb1 hb2 rfl (by rw [pickG_eq _ _ (by omega)]; exact hp) (sem_leaf h2)
            · obtain ⟨j, j1, j2, j3, j4⟩ := pickAt_ok h
              split at j4
              · rename_i v hv
                exact fin j v (by omega) (by omega) (by unfold toN; omega) hv (sem_leaf j4)
              · cases j4
        · rename_i id s
          obtain ⟨gb, n0, cap, hk0, hcx⟩ := hx
          split at h
          · rename_i e' s' n g hh
            split at h
            · rename_i hs1 hs2 hs3
              have hs2 : s = te.size := Nat.eq_of_beq_eq_true hs2
              have hs3 : n = len := Nat.eq_of_beq_eq_true hs3
              obtain ⟨hb, h2⟩ := sem_br_fail h
              obtain ⟨hb1, hb2⟩ := band_ok hb
              have hb1 := ile_ok hb1
              have hb2 : i < (n : Int) := ilt_ok hb2
              rw [sem_leaf h2]
              refine ⟨_, ?_, ⟨gb, n0, cap, hk0, rfl⟩⟩
              rw [hrun, hcx, run_index_arr hd hti hb1 (by omega), hs2, hts]
              simp [Result.andThen, toN]
            · cases h
          · cases h
        · cases h
      · cases h
    · cases h
  · cases h

include hτ in
theorem index_ok {t : Nat} {lit : Bool} {x y v : V} {cx cy : Value} (hx : VR S w x κ cx) (hy : VR S w y κ cy)
    (hrun : (execOp a.eval o).run P w = ((Instr.index t cx cy).run P w).andThen fun v w' => .ok (.value v) w')
    (h : (indexV τ t lit x y).sem = some v) : Same P a o S w κ v := by
  unfold indexV at h
  split at h
  · rename_i k i ty hty
    rw [VR_val hy] at hrun
    obtain ⟨_, d, _, hd, hk, _⟩ := hτ.info hty
    split at h
    · rename_i l hkk
      rw [hkk] at hk
      have := kOf_str hk.symm
      subst this
      obtain ⟨hb, h2⟩ := sem_br_fail h
      obtain ⟨hb1, hb2⟩ := band_ok hb
      have hb1 := ile_ok hb1
      have hb2 : i < (l.length : Int) := ilt_ok hb2
      have hlt : i.toNat < l.length := by omega
      rw [sem_leaf h2]
      refine ⟨_, ?_, rfl⟩
      rw [hrun, VR_str hx]
      have hg : (⟨l.toArray⟩ : ByteArray)[i.toNat]? = some l[i.toNat] := by
        rw [getElem?_pos (⟨l.toArray⟩ : ByteArray) i.toNat (by simpa [ByteArray.size] using hlt)]
        rfl
      simp only [Instr.index, Sem.run_bind, run_asIntOf, Result.andThen_ok, run_underlying hd]
      rw [if_pos hb1, hg]
      simp [sget, toN, hlt]
    · rename_i len e cs hkk
      rw [hkk] at hk
      have := kOf_arr hk.symm
      subst this
      split at h
      · rename_i te hte
        obtain ⟨ti, _, hti, _, _, hts, _⟩ := hτ.info hte
        obtain ⟨ca, rfl, hr⟩ := hx
        have fin : ∀ (j : Nat), 0 ≤ i → i < (len : Int) → j = toN i → partV τ e cs (Nat.mul j te.size) = some v → Same P a o S w κ v := by
          intro j h0 h1 hj hv
          obtain ⟨c, q1, q2, _⟩ := part_ok (P := P) hτ hv hr
          refine ⟨c, ?_, q2⟩
          rw [hrun]
          simp only [Instr.index, Sem.run_bind, run_asIntOf, Result.andThen_ok, run_underlying hd]
          rw [if_pos ⟨h0, h1⟩]
          have q1' : (part e ca.toArray (i.toNat * ti.size)).run P w = .ok c w := by
            rw [← hts]
            rw [hj] at q1
            exact q1
          simp only [Sem.run_bind, run_sizeOf_info hti, Result.andThen_ok, q1']
        split at h
        · split at h
          · rename_i hl
            obtain ⟨l1, l2⟩ := litBelow_ok hl
            exact fin _ l1 l2 rfl (sem_ofOpt h)
          · cases h
        · obtain ⟨j, j1, j2, j3, j4⟩ := pickAt_ok h
          exact fin j (by omega) (by omega) (by unfold toN; omega) (sem_ofOpt j4)
      · cases h
    · cases h
  · cases h

end
end Go.Sy

