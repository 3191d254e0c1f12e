/-
  The evaluator's makes, literals of slices and appends are the model's. No conditions.
-/
import Derived.Test.YtkcbdemfmjciiaaGreatDoorSyH
namespace Go.Sy

section
variable {P : Program} {τ : List Ty} (hτ : TabOK P τ) {Γ : Cx0} {S : Nat → Prop} {w : World} {κ : Nat → Option Value} {st : St} {a : Act} {o : Oper}
  {K : Act → World → Prop} {Q : Exit → Act → World → Prop} {r : V × St}

theorem Elems.append {s n m : Nat} {g g' g2 : Nat → V} {xs ys : List Value} (h : Elems S w s n g xs) (h2 : Elems S w s m g' ys) (hl : xs.length = n * s)
    (e1 : ∀ i, i < n → g2 i = g i) (e2 : ∀ i, i < m → g2 (n + i) = g' i) : Elems S w s (n + m) g2 (xs ++ ys) := by
  intro i hi
  by_cases hin : i < n
  · obtain ⟨c, q1, q2, q3, q4⟩ := h i hin
    refine ⟨c, by rw [e1 i hin]; exact q1, q2, q3, fun j hj => ?_⟩
    have := flat_lt hin hj
    rw [List.getElem?_append_left (by omega)]
    exact q4 j hj
  · obtain ⟨c, q1, q2, q3, q4⟩ := h2 (i - n) (by omega)
    refine ⟨c, ?_, q2, q3, fun j hj => ?_⟩
    · have := e2 (i - n) (by omega)
      rw [show n + (i - n) = i by omega] at this
      rw [this]; exact q1
    · have e : i * s + j = n * s + ((i - n) * s + j) := by
        have : i = n + (i - n) := by omega
        calc i * s + j = (n + (i - n)) * s + j := by rw [← this]
          _ = _ := by rw [Nat.add_mul, Nat.add_assoc]
      rw [e, List.getElem?_append_right (by omega), hl, Nat.add_sub_cancel_left]
      exact q4 j hj

theorem beq_false {i k : Nat} (h : i ≠ k) : Nat.beq i k = false := by
  cases hb : Nat.beq i k
  · rfl
  · exact absurd (Nat.eq_of_beq_eq_true hb) h

theorem growGet_lt (n m : Nat) (gx g : Nat → V) (i : Nat) (h : i < n) : growGet n m gx g i = gx i := by
  unfold growGet
  split
  · simp [pushGet_eq, beq_false (show i ≠ n by omega)]
  · have : Nat.blt i n = true := by simpa using h
    simp [appGet_eq, this]

theorem growGet_ge (n m : Nat) (gx g : Nat → V) (i : Nat) (h : i < m) : growGet n m gx g (n + i) = g i := by
  unfold growGet
  split
  · have : i = 0 := by omega
    subst this
    simp [pushGet_eq]
  · have : Nat.blt (n + i) n = false := by
      cases hb : Nat.blt (n + i) n
      · rfl
      · simp at hb; omega
    simp [appGet_eq, this]

/-- What is appended: cells that lie somewhere. -/
def Source (S : Nat → Prop) (w : World) (s m : Nat) (g : Nat → V) (cy : Value) : Prop :=
  ∃ ay c news, cy = .slice ay m c ∧ news.length = m * s ∧ (∀ u ∈ news, u.oneCell' = true) ∧ Elems S w s m g news ∧
    ((ay = none ∧ m = 0) ∨ ∃ ad, ay = some ad ∧ ∀ j u, news[j]? = some u → w.cell? (ad.add j) = some u)

theorem Elems.one {s n : Nat} {g : Nat → V} {xs : List Value} (h : Elems S w s n g xs) (hl : xs.length = n * s) (_hs : 0 < s) : ∀ u ∈ xs, u.oneCell' = true := by
  intro u hu
  obtain ⟨p, hp, rfl⟩ := List.mem_iff_getElem.1 hu
  have hi : p / s < n := by
    rw [hl] at hp
    exact Nat.div_lt_of_lt_mul (by rwa [Nat.mul_comm])
  obtain ⟨c, q1, q2, q3, q4⟩ := h (p / s) hi
  have hm : p % s < s := Nat.mod_lt _ _hs
  have := q4 (p % s) hm
  rw [show p / s * s + p % s = p by rw [Nat.mul_comm]; exact Nat.div_add_mod p s] at this
  rw [List.getElem?_eq_getElem hp] at this
  exact q3 _ (Array.mem_toList_iff.2 (Array.mem_of_getElem? this.symm))

theorem source_row (hg : Good κ S st.h w) {id e s m : Nat} {g : Nat → V} {cy : Value} (hh : st.h[id]? = some (.row e s m g)) (hy : VR S w (.ref id) κ cy) : Source S w s m g cy := by
  obtain ⟨hs0, c0, xs, hk, ho, he⟩ := blk_row hg hh
  obtain ⟨hk', _⟩ := hy
  rw [hk] at hk'
  simp at hk'
  subst hk'
  have hl := ho.1
  rcases ho.2 with ⟨rfl, h0⟩ | ⟨g', cap, cur, rfl, _, hgw, hnc, _, hsz, htake⟩
  · exact ⟨none, 0, xs, by rw [h0], hl, he.one hl hs0, he, .inl ⟨rfl, h0⟩⟩
  · refine ⟨_, cap, xs, rfl, hl, he.one hl hs0, he, .inr ⟨_, rfl, fun j u hj => ?_⟩⟩
    rw [addr_add, Nat.zero_add, cell_of_row w g' j cur e (0, 0) hgw]
    rw [← htake, List.getElem?_take] at hj
    split at hj
    · simpa using hj
    · cases hj

theorem source_sl {s m : Nat} {g : Nat → V} {cy : Value} (hs0 : 0 < s) (hy : VR S w (.sl s m g) κ cy) : Source S w s m g cy := by
  obtain ⟨ay, cap, rfl, _, h⟩ := hy
  rcases h with h0 | ⟨b, o, rfl, h⟩
  · subst h0
    refine ⟨ay, cap, [], rfl, by simp, by simp, fun i hi => absurd hi (Nat.not_lt_zero _), ?_⟩
    cases ay with
    | none => exact .inl ⟨rfl, rfl⟩
    | some ad => exact .inr ⟨ad, rfl, fun j u hj => by simp at hj⟩
  · -- the cells, read off memory
    have hcell : ∀ i, i < m → ∃ ci, VR S w (g i) noK ci ∧ ci.cells.size = s ∧ (∀ u ∈ ci.cells.toList, u.oneCell' = true) ∧ ∀ j, j < s → w.cell? ⟨b, o + (i * s + j), none⟩ = ci.cells[j]? := by
      intro i hi
      obtain ⟨ci, q1, q2, q3, q4⟩ := h i hi
      refine ⟨ci, q1, q2, q3, fun j hj => ?_⟩
      have hj' : j < ci.cells.size := by omega
      have hx : ci.cells.toList[j]? = some ci.cells[j] := by simp [hj']
      have := (q4 j _ hx).2
      rw [← Nat.add_assoc, this]
      simp [hj']
    have hnews : ∀ p, p < m * s → ∃ u, w.cell? ⟨b, o + p, none⟩ = some u := by
      intro p hp
      have hi : p / s < m := Nat.div_lt_of_lt_mul (by rwa [Nat.mul_comm])
      obtain ⟨ci, q1, q2, q3, q4⟩ := hcell (p / s) hi
      have hm : p % s < s := Nat.mod_lt _ hs0
      have := q4 (p % s) hm
      rw [show p / s * s + p % s = p by rw [Nat.mul_comm]; exact Nat.div_add_mod p s] at this
      exact ⟨ci.cells[p % s]'(by omega), by rw [this]; simp [show p % s < ci.cells.size by omega]⟩
    have hget : ∀ p, p < m * s → ((List.range (m * s)).map fun p => (w.cell? ⟨b, o + p, none⟩).getD undef)[p]? = w.cell? ⟨b, o + p, none⟩ := by
      intro p hp
      obtain ⟨u, hu⟩ := hnews p hp
      simp [hp, hu]
    have hel : Elems S w s m g ((List.range (m * s)).map fun p => (w.cell? ⟨b, o + p, none⟩).getD undef) := by
      intro i hi
      obtain ⟨ci, q1, q2, q3, q4⟩ := hcell i hi
      exact ⟨ci, q1, q2, q3, fun j hj => by rw [hget _ (flat_lt hi hj)]; exact q4 j hj⟩
    refine ⟨_, cap, _, rfl, by simp, hel.one (by simp) hs0, hel, .inr ⟨_, rfl, fun j u hj => ?_⟩⟩
    have hj' : j < m * s := by
      have := (List.getElem?_eq_some_iff.1 hj).1
      simpa using this
    rw [addr_add, ← hget j hj']
    exact hj

theorem run_append_zero {t ty e : TypeId} {i : TypeInfo} (ht : P.underlying t = some (.slice e)) (hi : P.info? e = some i) (base : Option Addr) (n cap c : Nat) (h : n ≤ cap) :
    (Builtin.append_ #[t, t] ty #[.slice base n cap, .slice none 0 c]).run P w = .ok (.slice base n cap) w := by
  cases base <;> simp [Builtin.append_, run_underlying ht, sizeOf, typeInfo, hi, Builtin.lenOf, h, Builtin.firstCells, storeCells]

theorem IsRow.holds2 {S : Nat → Prop} {w : World} {κ : Nat → Option Value} {mk : Nat → (Nat → V) → Blk} {e s n : Nat} {g : Nat → V} {v : Option Value} (hb : ∀ n g', IsRow (mk n g') e s n g')
    (h : 0 < s ∧ ∃ c xs, v = some c ∧ w.ownsRow 0 e s c n xs ∧ Elems S w s n g xs) : Holds S w κ v (mk n g) := by
  rcases hb n g with hb | ⟨lk, hb⟩ <;> (rw [hb]; exact h)

include hτ in
theorem growRow_ok (hg : Good κ S st.h w) (ht : VRs S w st.t κ a.tmps.toList) {t e : TypeId} {ty : Ty} {cx cy : Value} {id n m : Nat} {gx g : Nat → V}
    (htd : P.underlying t = some (.slice e)) (hty : τ[e]? = some ty) {zc : List V} (hzc : ty.zero.cells = some zc) (hzl : zc.length = ty.size) (hpos : 0 < ty.size) (hbpos : 0 < ty.bytes)
    (hx : VR S w (.ref id) κ cx) (hsrc : Source S w ty.size m g cy)
    (hrun : (execOp a.eval o).run P w = ((Builtin.append_ #[t, t] o.type #[cx, cy]).run P w).andThen fun v w' => .ok (.value v) w')
    {mk : Nat → (Nat → V) → Blk} (hmk : mk = Blk.row e ty.size ∨ mk = Blk.xrow true e ty.size) (hh : st.h[id]? = some (mk n gx)) (hb : apOK n m ty.bytes = true)
    (hp : Post a o κ S st w K (.ref id, ⟨kill.kills id st.t, (killBs id st.h).set id (mk (nadd n m) (growGet n m gx g))⟩)) : o.wp P a w K Q := by
  obtain ⟨i, d, hi, hd, _, hs, hby, hz, _⟩ := hτ.info hty
  obtain ⟨z, hzi, hzs⟩ : ∃ z, i.zero = some z ∧ z.cells.size = ty.size := by
    cases hzz : i.zero with
    | none => rw [hzz] at hz; rw [hz] at hzc; simp [V.cells] at hzc
    | some z =>
      rw [hzz] at hz
      have hz : ty.zero = ofValue z := hz
      have := (VR_cells (S := S) (w := w) (κ := κ) hzc (by rw [hz]; exact VR_ofValue z)).1.length
      exact ⟨z, rfl, by rw [← hzl, ← this]; simp⟩
  have hrow' : ∀ n g', IsRow (mk n g') e ty.size n g' := fun n g' => by
    rcases hmk with rfl | rfl
    · exact .inl rfl
    · exact .inr ⟨_, rfl⟩
  have hrow := hrow' n gx
  have hb : (n + m) * ty.bytes ≤ 140737488355328 := by simpa [apOK] using hb
  obtain ⟨hs0, c0, xs, hk, ho, he⟩ := blk_x hg hh hrow
  obtain ⟨hk', _⟩ := hx
  rw [hk] at hk'
  simp at hk'
  subst hk'
  obtain ⟨ay, c, news, rfl, hnl, hn1, hne, hwhere⟩ := hsrc
  have h63 : n + m ≤ maxLen := by
    have : (n + m) * 1 ≤ (n + m) * ty.bytes := Nat.mul_le_mul_left _ hbpos
    unfold maxLen
    omega
  -- what the append comes to
  obtain ⟨v', w', hap, hown', hgrow, hat, hkept⟩ : ∃ v' w', (Builtin.append_ #[t, t] o.type #[c0, .slice ay m c]).run P w = .ok v' w' ∧ w'.ownsRow 0 e ty.size v' (n + m) (xs ++ news) ∧
      w.grownBy w' c0.ownBlock ∧ (v'.ownBlock = c0.ownBlock ∨ v'.ownBlock = some w.heap.size) ∧ ∀ k, blockOf (some c0) = some k → Kept w w' k (n * ty.size) := by
    rcases hwhere with ⟨rfl, rfl⟩ | ⟨ad, rfl, hnews⟩
    · have hnil : news = [] := List.eq_nil_of_length_eq_zero (by simpa using hnl)
      subst hnil
      have hsl : ∃ base cap, c0 = .slice base n cap ∧ n ≤ cap := by
        rcases ho.2 with ⟨rfl, h0⟩ | ⟨g', cap, cur, rfl, _, _, hnc, _⟩
        · exact ⟨none, 0, by rw [h0], by omega⟩
        · exact ⟨_, cap, rfl, hnc⟩
      obtain ⟨base, cap, rfl, hnc⟩ := hsl
      exact ⟨_, w, run_append_zero htd hi base n cap c hnc, by simpa using ho, ⟨rfl, rfl, rfl, Nat.le_refl _, fun _ _ _ => rfl⟩, .inl rfl, fun k _ => Kept.refl _ _ _⟩
    · obtain ⟨v', w', q1, q2, q3, _, q5⟩ := run_append_own_at (P := P) w 0 t o.type e i z ty.size ty.bytes htd hi hzi hs.symm hby.symm hzs hpos c0 n xs ho ad m c news hnl hnews hn1 h63 hb (Nat.zero_le _)
      refine ⟨v', w', q1, q2, q3, q5, fun k hk' => ?_⟩
      rcases ho.2 with ⟨rfl, h0⟩ | ⟨g', cap, cur, rfl, _, hgw, hnc, hcm, hcs, htake⟩
      · cases hk'
      · have hk' : g' = k := by simpa [blockOf] using hk'
        subst hk'
        by_cases hroom : n + m ≤ cap
        · have hfit : n * i.size + news.length ≤ cur.size := by rw [hnl, hcs, ← hs, ← Nat.add_mul]; exact Nat.mul_le_mul_right _ hroom
          have hr := run_append_room (P := P) w t o.type e i htd hi g' n cap cur hgw ad m c news (by rw [hnl, hs]) hnews hn1 hroom hfit
          rw [q1] at hr
          injection hr with _ hw'
          rw [hw']
          intro ca e1 z1 hca
          rw [hgw] at hca
          simp only [Option.some.injEq, Obj.cells.injEq] at hca
          obtain ⟨rfl, rfl, rfl⟩ := hca
          refine ⟨_, setRow_heap w g' cur _ e _ hgw, ?_, fun j hj => ?_⟩
          · simp only [List.size_toArray, List.length_append, List.length_take, List.length_drop, Array.length_toList]
            omega
          · rw [← Array.getElem?_toList, List.toList_toArray, getElem?_splice _ _ _ _ (by simpa using hfit), if_neg (by rw [← hs]; omega), Array.getElem?_toList]
        · have holds : ∀ j u, xs[j]? = some u → w.cell? ((⟨g', 0, none⟩ : Addr).add j) = some u := ho.cells (g := g') rfl
          have hr := run_append_grow (P := P) w t o.type e i z htd hi hzi ⟨g', 0, none⟩ n cap xs (by rw [ho.1, hs]) holds ad m c news (by rw [hnl, hs]) hnews (by omega) (by unfold maxLen at h63; omega) (growslice_fits (by omega) (by rw [← hby]; exact hb))
          rw [q1] at hr
          injection hr with _ hw'
          rw [hw']
          exact Kept.same (heap_alloc_old w.drew _ g' (Array.getElem?_eq_some_iff.1 hgw).1)
  have bo : ∀ {v : Value} {nn : Nat} {ys : List Value} {ww : World}, ww.ownsRow 0 e ty.size v nn ys → blockOf (some v) = v.ownBlock := by
    intro v nn ys ww h
    rcases h.2 with ⟨rfl, _⟩ | ⟨g', cap, cur, rfl, _⟩ <;> rfl
  have hslice' : ∃ b nn cap, v' = .slice b nn cap := by
    rcases hown'.2 with ⟨rfl, _⟩ | ⟨g', cap, cur, rfl, _⟩
    · exact ⟨_, _, _, rfl⟩
    · exact ⟨_, _, _, rfl⟩
  have hwk : ∀ k, k < w.heap.size → blockOf (κ id) ≠ some k → w'.heap[k]? = w.heap[k]? := fun k hk1 hk2 => hgrow.block k hk1 (by rw [hk, bo ho] at hk2; exact fun e => hk2 e.symm)
  have hgown : ownB κ st.h id = blockOf (κ id) := ownB_of hh hrow.live
  have hS : ∀ b, S b → S b ∧ w'.heap[b]? = w.heap[b]? := fun b hb => ⟨hb, hwk b (hg.out b hb).1 fun eb => (hg.out b hb).2 id (by rw [hgown]; exact eb)⟩
  have hap2 := Good.app (w' := w') (c' := v') (b' := mk (n + m) (growGet n m gx g)) hg hh hrow (hrow' _ _).live hwk hgrow.size
    (by rw [bo hown', hk, bo ho]; exact hat)
    (IsRow.holds2 hrow' ⟨hs0, v', xs ++ news, rfl, hown', (he.mono hS).append (hne.mono hS) ho.1 (growGet_lt n m gx g) (growGet_ge n m gx g)⟩)
  obtain ⟨q1, q2, q3⟩ := hap2
  unfold Oper.wp
  rw [hrun, hap]
  refine hp (setK κ id v') S v' w' q1 (q2 _ _ ht) ⟨by simp [setK], .inl hslice'⟩ ?_
  exact Ext.app hg hh hrow hgrow.os hgrow.tape hgrow.output hwk hgrow.size (by rw [bo hown', hk, bo ho]; exact hat)
    (fun _ _ _ _ h => by rcases hmk with rfl | rfl <;> cases h)
    (fun e1 s1 n1 g1 h => by
      rcases hmk with rfl | rfl
      · cases h
      · cases h
        exact ⟨⟨_, _, rfl, Nat.le_add_right _ _⟩, fun k hk2 => hkept k (by rw [← hk]; exact hk2)⟩) q3

include hτ in
theorem grow_ok (hg : Good κ S st.h w) (ht : VRs S w st.t κ a.tmps.toList) {t e : TypeId} {ty : Ty} {x : V} {cx cy : Value} {m : Nat} {g : Nat → V}
    (htd : P.underlying t = some (.slice e)) (hty : τ[e]? = some ty) {zc : List V} (hzc : ty.zero.cells = some zc) (hzl : zc.length = ty.size) (hpos : 0 < ty.size) (hbpos : 0 < ty.bytes)
    (hx : VR S w x κ cx) (hsrc : Source S w ty.size m g cy)
    (hrun : (execOp a.eval o).run P w = ((Builtin.append_ #[t, t] o.type #[cx, cy]).run P w).andThen fun v w' => .ok (.value v) w')
    (h : (growV ty e st x m g).sem = some r) (hp : Post a o κ S st w K r) : o.wp P a w K Q := by
  unfold growV at h
  split at h
  · rename_i id
    split at h
    · rename_i e' s n gx hh
      split at h
      · rename_i hee hss
        have hee : e = e' := Nat.eq_of_beq_eq_true hee
        have hss : s = ty.size := Nat.eq_of_beq_eq_true hss
        subst hee
        subst hss
        obtain ⟨hb, h2⟩ := sem_br_fail h
        have hr := sem_leaf h2
        subst hr
        exact growRow_ok (P := P) hτ hg ht htd hty hzc hzl hpos hbpos hx hsrc hrun (.inl rfl) hh hb hp
      · cases h
    · rename_i e' s n gx hh
      split at h
      · rename_i hee hss
        have hee : e = e' := Nat.eq_of_beq_eq_true hee
        have hss : s = ty.size := Nat.eq_of_beq_eq_true hss
        subst hee
        subst hss
        obtain ⟨hb, h2⟩ := sem_br_fail h
        have hr := sem_leaf h2
        subst hr
        exact growRow_ok (P := P) hτ hg ht htd hty hzc hzl hpos hbpos hx hsrc hrun (.inr rfl) hh hb hp
      · cases h
    · cases h
  · cases h

include hτ in
theorem append_ok (hg : Good κ S st.h w) (ht : VRs S w st.t κ a.tmps.toList) {t : TypeId} {x y : V} {cx cy : Value} (hx : VR S w x κ cx) (hy : VR S w y κ cy)
    (hrun : (execOp a.eval o).run P w = ((Builtin.append_ #[t, t] o.type #[cx, cy]).run P w).andThen fun v w' => .ok (.value v) w')
    (h : (appendV τ st t x y).sem = some r) (hp : Post a o κ S st w K r) : o.wp P a w K Q := by
  unfold appendV at h
  split at h
  · rename_i ts hts
    obtain ⟨_, d, _, hd, hk, _⟩ := hτ.info hts
    split at h
    · rename_i e hkk
      rw [hkk] at hk
      have := kOf_sl hk.symm
      subst this
      split at h
      · rename_i ty hty
        split at h
        · rename_i zc hzc
          split at h
          · rename_i h1 h2 h3
            have h1 : zc.length = ty.size := Nat.eq_of_beq_eq_true h1
            have h2 : 0 < ty.size := by simpa using h2
            have h3 : 0 < ty.bytes := by simpa using h3
            split at h
            · rename_i id'
              split at h
              · rename_i e' s' m g hh
                split at h
                · rename_i hs
                  have hs : s' = ty.size := Nat.eq_of_beq_eq_true hs
                  subst hs
                  exact grow_ok (P := P) hτ hg ht hd hty hzc h1 h2 h3 hx (source_row hg hh hy) hrun h hp
                · cases h
              · cases h
            · rename_i s' m g
              split at h
              · rename_i hs
                have hs : s' = ty.size := Nat.eq_of_beq_eq_true hs
                subst hs
                exact grow_ok (P := P) hτ hg ht hd hty hzc h1 h2 h3 hx (source_sl h2 hy) hrun h hp
              · cases h
            · cases h
          · cases h
        · cases h
      · cases h
    · cases h
  · cases h

theorem madeCells_get (z : Array Value) (n s i j : Nat) (hz : z.size = s) (hi : i < n) (hj : j < s) : (madeCells z (n * s)).toList[i * s + j]? = z[j]? := by
  have hlt := flat_lt hi hj
  have hm : (i * s + j) % s = j := by rw [Nat.mul_add_mod_self_right]; exact Nat.mod_eq_of_lt hj
  have hjz : j < z.size := by omega
  simp [madeCells, hlt, hz, hm, getElem!_pos z j hjz]

include hτ in
theorem make_ok (hg : Good κ S st.h w) (ht : VRs S w st.t κ a.tmps.toList) {t : TypeId} {x y : V} {cx cy : Value} (hx : VR S w x κ cx) (hy : VR S w y κ cy)
    (hrun : (execOp a.eval o).run P w = ((Instr.makeSlice t cx cy).run P w).andThen fun v w' => .ok (.value v) w')
    (h : (makeV τ st t x y).sem = some r) (hp : Post a o κ S st w K r) : o.wp P a w K Q := by
  unfold makeV at h
  split at h
  · rename_i l c ts hts
    rw [VR_val hx, VR_val hy] at hrun
    obtain ⟨_, d, _, hd, hk, _⟩ := hτ.info hts
    split at h
    · rename_i e hkk
      rw [hkk] at hk
      have := kOf_sl hk.symm
      subst this
      split at h
      · rename_i te hte
        obtain ⟨i, _, hi, _, _, hs, hby, hz, _⟩ := hτ.info hte
        split at h
        · rename_i zc hzc
          split at h
          · rename_i h1 h2
            have h1 : zc.length = te.size := Nat.eq_of_beq_eq_true h1
            have h2 : 0 < te.size := by simpa using h2
            obtain ⟨hm, h3⟩ := sem_br_fail h
            simp only [mkOK, Bool.and_eq_true, decide_eq_true_eq] at hm
            obtain ⟨m1, m2, m3, m4⟩ := hm
            obtain ⟨z, hzi, hzz⟩ : ∃ z, i.zero = some z ∧ te.zero = ofValue z := by
              cases hzz : i.zero with
              | none => rw [hzz] at hz; rw [hz] at hzc; simp [V.cells] at hzc
              | some z => rw [hzz] at hz; exact ⟨z, rfl, hz⟩
            have hvz : ∀ (S' : Nat → Prop) (w' : World), VR S' w' te.zero noK z := fun S' w' => by rw [hzz]; exact VR_ofValue z
            have hcz := VR_cells hzc (hvz S w)
            have hsz : z.cells.size = te.size := by rw [← h1, ← hcz.1.length]; simp
            have hmk := run_make (P := P) w t e i z hd hi hzi .i64 .i64 l c m1 m2 (by rw [← hby]; exact m3) m4
            rw [← hs] at hmk
            have hrun' : (execOp a.eval o).run P w = .ok (.value (.slice (some ⟨w.heap.size, 0, none⟩) (toN l) c.toNat)) (w.alloc (.cells (madeCells z.cells (c.toNat * te.size)) e)) := by
              rw [hrun, hmk]; rfl
            have hlc : l.toNat ≤ c.toNat := Int.toNat_le_toNat m2
            refine ok_new (v := V.ref) hg ht hrun' (alloc_heap w _) (by simp) rfl rfl rfl ?_ (.inr rfl) ⟨by simp [addK], .inl ⟨_, _, _, rfl⟩⟩ h3 hp
            refine ⟨h2, _, ((madeCells z.cells (c.toNat * te.size)).toList.take (l.toNat * te.size)), rfl, ⟨?_, .inr ⟨w.heap.size, c.toNat, _, rfl, Nat.zero_le _, heap_alloc_new w _, hlc, ?_, size_madeCells _ _, rfl⟩⟩, ?_⟩
            · have : l.toNat * te.size ≤ c.toNat * te.size := Nat.mul_le_mul_right _ hlc
              rw [List.length_take, Array.length_toList, size_madeCells, Nat.min_eq_left this]
              rfl
            · unfold maxLen; omega
            · intro k hkn
              refine ⟨z, hvz _ _, hsz, hcz.2, fun j hj => ?_⟩
              have hkn : k < l.toNat := hkn
              rw [List.getElem?_take, if_pos (flat_lt hkn hj)]
              exact madeCells_get z.cells c.toNat te.size k j hsz (by omega) hj
          · cases h
        · cases h
      · cases h
    · cases h
  · cases h

end
end Go.Sy

