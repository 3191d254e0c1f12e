/-
  The evaluator's operations are the model's: types, parts, loads, arithmetic. No conditions.
-/
import Derived.Test.YtkcbdemfmjciiaaGreatDoorSyC
import Derived.Maps.AppendAt
import Derived.Laws.StructEq
import Derived.RegionTactic
import Derived.ChangeKeysEq
namespace Go.Sy

structure TabOK (P : Program) (τ : List Ty) : Prop where
  tab : ∀ j ty, τ[j]? = some ty → tyOf P j = some ty
  same : P = theP

section
variable {P : Program} {τ : List Ty} (hτ : TabOK P τ)
include hτ

theorem TabOK.info {j : Nat} {ty : Ty} (h : τ[j]? = some ty) : ∃ i d, P.info? j = some i ∧ P.underlying j = some d ∧ ty.k = kOf P d ∧ ty.size = i.size ∧ ty.bytes = i.bytes ∧
    ty.zero = (match i.zero with | some z => ofValue z | none => .und) ∧ ty.plain = plainStruct P j := by
  have := hτ.tab j ty h
  unfold tyOf at this
  split at this
  · rename_i i d hi hd
    simp at this
    subst this
    exact ⟨i, d, hi, hd, rfl, rfl, rfl, rfl, rfl⟩
  · cases this
end

theorem kOf_map {P : Program} {k e : Nat} (x : K) (h : kOf P (.map k e) = x) : x = .other ∨ x = .imap e := by
  subst h
  simp only [kOf]
  split
  · exact .inr rfl
  · exact .inl rfl

theorem kOf_sl {P : Program} {d : TypeDesc} {e : Nat} (h : kOf P d = .sl e) : d = .slice e := by
  cases d
  case map k e => rcases kOf_map _ h with h | h <;> cases h
  all_goals (simp [kOf] at h <;> try rw [h])
theorem kOf_int {P : Program} {d : TypeDesc} {k : IntKind} (h : kOf P d = .int k) : d = .int k := by
  cases d
  case map k e => rcases kOf_map _ h with h | h <;> cases h
  all_goals (simp [kOf] at h <;> try rw [h])
theorem kOf_bool {P : Program} {d : TypeDesc} (h : kOf P d = .bool) : d = .bool := by
  cases d
  case map k e => rcases kOf_map _ h with h | h <;> cases h
  all_goals first | rfl | (simp [kOf] at h)
theorem kOf_str {P : Program} {d : TypeDesc} (h : kOf P d = .str) : d = .string := by
  cases d
  case map k e => rcases kOf_map _ h with h | h <;> cases h
  all_goals first | rfl | (simp [kOf] at h)
theorem kOf_arr {P : Program} {d : TypeDesc} {n e : Nat} (h : kOf P d = .arr n e) : d = .array n e := by
  cases d
  case map k e => rcases kOf_map _ h with h | h <;> cases h
  all_goals (simp [kOf] at h <;> try rw [h.1, h.2])
theorem kOf_st {P : Program} {d : TypeDesc} {fs : List (Nat × Nat)} (h : kOf P d = .st fs) : ∃ gs, d = .struct gs ∧ fs = gs.toList.map fun f => (f.offset, f.type) := by
  cases d
  case map k e => rcases kOf_map _ h with h | h <;> cases h
  all_goals (simp [kOf] at h <;> try exact ⟨_, rfl, h.symm⟩)
theorem kOf_imap {P : Program} {d : TypeDesc} {e : Nat} (h : kOf P d = .imap e) : ∃ k, d = .map k e ∧ P.underlying k = some (.int .i64) ∧ P.underlying e = some (.int .i64) := by
  cases d <;> simp only [kOf] at h <;> try cases h
  rename_i k e
  split at h
  · rename_i h1 h2
    cases h
    exact ⟨k, rfl, h1, h2⟩
  · cases h

section
variable {P : Program} {τ : List Ty} (hτ : TabOK P τ)

theorem run_sizeOf_info {t : Nat} {i : TypeInfo} (h : P.info? t = some i) (w : World) : (sizeOf t).run P w = .ok i.size w := by
  simp [sizeOf, typeInfo, h]

theorem run_isAgg_k {t : Nat} {d : TypeDesc} (h : P.underlying t = some d) (w : World) : (isAgg t).run P w = .ok (isAggK (kOf P d)) w := by
  unfold isAgg
  rw [Sem.run_bind, run_underlying h w]
  cases d
  case map k e =>
    have : isAggK (kOf P (.map k e)) = false := by
      rcases kOf_map _ (Eq.refl (kOf P (.map k e))) with h | h <;> rw [h] <;> rfl
    rw [this]
    rfl
  all_goals rfl

theorem addr_add (b o j : Nat) : (⟨b, o, none⟩ : Addr).add j = ⟨b, o + j, none⟩ := by
  unfold Addr.add
  split
  · subst_vars; rfl
  · rfl

theorem oneCell_cells {c : Value} (h : c.oneCell' = true) : c.cells = #[c] := by cases c <;> simp [Value.oneCell'] at h <;> rfl

section
variable {S : Nat → Prop} {w : World} {κ : Nat → Option Value}

theorem getElem?_drop_take (l : List Value) (off n j : Nat) : ((l.drop off).take n)[j]? = if j < n then l[off + j]? else none := by
  rw [List.getElem?_take, List.getElem?_drop]

include hτ in
/-- A part of some cells. -/
theorem part_ok {t off : Nat} {cs : List V} {v : V} {ca : List Value} (hp : partV τ t cs off = some v) (hcs : VRs S w cs κ ca) :
    ∃ c, (part t ca.toArray off).run P w = .ok c w ∧ VR S w v κ c ∧
      (∀ (b o : Nat), (∀ j u, ca[j]? = some u → w.cell? ⟨b, o + j, none⟩ = some u) → (loadVar t ⟨b, o + off, none⟩).run P w = .ok c w) ∧
      ((∀ u ∈ ca, u.oneCell' = true) → (∀ j u, c.cells[j]? = some u → ca[off + j]? = some u) ∧ (∀ u ∈ c.cells.toList, u.oneCell' = true)) ∧
      (∃ ty, τ[t]? = some ty ∧ (isAggK ty.k = true → c.cells.size = ty.size)) := by
  unfold partV at hp
  split at hp
  · rename_i ty hty
    obtain ⟨i, d, hi, hd, hk, hs, _, _, _⟩ := hτ.info hty
    split at hp
    · rename_i hagg
      split at hp
      · rename_i hle
        simp at hp
        subst hp
        have hle' : off + ty.size ≤ cs.length := by simpa using hle
        have hlen := hcs.length
        have hcs' : VRs S w ((cs.drop off).take ty.size) κ ((ca.drop off).take ty.size) := (hcs.drop off).take ty.size
        have hl2 : ((ca.drop off).take ty.size).length = ty.size := by simp; omega
        rw [hk] at hagg
        refine ⟨.agg ((ca.drop off).take ty.size).toArray, ?_, ⟨_, rfl, hcs'⟩, ?_, ?_, ⟨ty, hty, fun _ => by simpa [Value.cells] using hl2⟩⟩
        · simp only [part, Sem.run_bind, run_isAgg_k hd, hagg, Result.andThen_ok, if_true, run_sizeOf_info hi, Sem.run_pure, ← hs]
          congr 2
          apply Array.ext'
          simp [List.extract_eq_take_drop]
        · intro b o hcell
          have hld := run_loadCells_list (P := P) w ⟨b, o + off, none⟩ ((ca.drop off).take ty.size) (fun j u hj => by
            rw [addr_add, Nat.add_assoc]
            rw [getElem?_drop_take] at hj
            split at hj
            · exact hcell _ _ hj
            · cases hj)
          rw [hl2] at hld
          simp only [loadVar, Sem.run_bind, run_isAgg_k hd, hagg, Result.andThen_ok, if_true, run_sizeOf_info hi, ← hs, hld, Sem.run_pure]
        · intro h1
          refine ⟨fun j u hj => ?_, fun u hu => ?_⟩
          · simp only [Value.cells, List.getElem?_toArray, getElem?_drop_take] at hj
            split at hj
            · exact hj
            · cases hj
          · simp only [Value.cells] at hu
            exact h1 u (List.mem_of_mem_drop (List.mem_of_mem_take hu))
      · cases hp
    · rename_i hagg
      obtain ⟨c, hc, hv⟩ := hcs.get hp
      rw [hk] at hagg
      refine ⟨c, ?_, hv, ?_, ?_, ⟨ty, hty, fun h => by rw [hk, hagg] at h; cases h⟩⟩
      · simp [part, run_isAgg_k hd, hagg, hc]
      · intro b o hcell
        simp [loadVar, run_isAgg_k hd, hagg, hcell off c hc]
      · intro h1
        have hcc := oneCell_cells (h1 c (List.mem_of_getElem? hc))
        rw [hcc]
        refine ⟨fun j u hj => ?_, fun u hu => ?_⟩
        · cases j with
          | zero => simp at hj; subst hj; simpa using hc
          | succ j => simp at hj
        · simp at hu; subst hu; exact h1 u (List.mem_of_getElem? hc)
  · cases hp

end
end
end Go.Sy

namespace Go.Sy

theorem sem_bind {α β : Type} (f : α → T β) : ∀ (t : T α), (t.bind f).sem = match t.sem with | some a => (f a).sem | none => none
  | .leaf a => rfl
  | .br b x y => by
    cases b
    · exact sem_bind f y
    · exact sem_bind f x
  | .fail => rfl

theorem sem_bind_some {α β : Type} {f : α → T β} {t : T α} {r : β} (h : (t.bind f).sem = some r) : ∃ a, t.sem = some a ∧ (f a).sem = some r := by
  rw [sem_bind] at h
  cases ht : t.sem with
  | none => rw [ht] at h; cases h
  | some a => rw [ht] at h; exact ⟨a, rfl, h⟩

theorem sem_br_fail {α : Type} {b : Bool} {x : T α} {r : α} (h : (T.br b x .fail).sem = some r) : b = true ∧ x.sem = some r := by
  cases b
  · cases h
  · exact ⟨rfl, h⟩

theorem sem_fail_br {α : Type} {b : Bool} {x : T α} {r : α} (h : (T.br b .fail x).sem = some r) : b = false ∧ x.sem = some r := by
  cases b
  · exact ⟨rfl, h⟩
  · cases h

theorem sem_leaf {α : Type} {a r : α} (h : (T.leaf a).sem = some r) : r = a := by
  simp only [T.sem, Option.some.injEq] at h; exact h.symm

theorem sem_ofOpt {α : Type} {a : Option α} {r : α} (h : (T.ofOpt a).sem = some r) : a = some r := by
  cases a with
  | none => cases h
  | some a => simp only [T.ofOpt, T.sem] at h; exact h

theorem sem_keep {st : St} {t : T V} {r : V × St} (h : (keep st t).sem = some r) : ∃ v, t.sem = some v ∧ r = (v, st) := by
  obtain ⟨v, h1, h2⟩ := sem_bind_some h
  exact ⟨v, h1, sem_leaf h2⟩

theorem ikEq_eq {k k' : IntKind} (h : ikEq k k' = true) : k = k' := by cases k <;> cases k' <;> simp [ikEq] at h <;> rfl

section
variable {P : Program} {τ : List Ty} (hτ : TabOK P τ) {S : Nat → Prop} {w : World} {κ : Nat → Option Value}

theorem VR_val {v c : Value} (h : VR S w (.val v) κ c) : c = v := h
theorem VR_str {l : List UInt8} {c : Value} (h : VR S w (.str l) κ c) : c = .string ⟨l.toArray⟩ := h

theorem toList_mk (l : List UInt8) : (⟨l.toArray⟩ : ByteArray).toList = l := by rw [ByteArray.toList_eq]

include hτ in
theorem eqLeaf_ok {x y : V} {b : Bool} {cx cy : Value} {t : Nat} {ty : Ty} (hty : τ[t]? = some ty) (h : eqLeaf ty.k x y = some b) (hx : VR S w x κ cx) (hy : VR S w y κ cy) (d : Nat) :
    (Op.equalIn (d + 1) t cx cy).run P w = .ok b w ∧ cx.oneCell' = true ∧ cy.oneCell' = true := by
  obtain ⟨i, dd, _, hd, hk, _⟩ := hτ.info hty
  have hu := run_underlying hd w
  unfold eqLeaf at h
  split at h
  · rename_i k0 k a k' b' hk0
    rw [hk0] at hk
    have hdd := kOf_int hk.symm
    subst hdd
    split at h
    · rename_i hk
      have hk := ikEq_eq hk
      subst hk
      simp at h; subst h
      rw [VR_val hx, VR_val hy]
      refine ⟨?_, rfl, rfl⟩
      simp only [Op.equalIn, Sem.run_bind, hu, Result.andThen_ok]
      simp
      rfl
    · cases h
  · rename_i a b' hk0
    rw [hk0] at hk
    have hdd := kOf_bool hk.symm
    subst hdd
    simp at h; subst h
    rw [VR_val hx, VR_val hy]
    refine ⟨?_, rfl, rfl⟩
    simp only [Op.equalIn, Sem.run_bind, hu, Result.andThen_ok]
    simp
    rfl
  · rename_i a b' hk0
    rw [hk0] at hk
    have hdd := kOf_str hk.symm
    subst hdd
    simp at h; subst h
    rw [VR_str hx, VR_str hy]
    refine ⟨?_, rfl, rfl⟩
    simp only [Op.equalIn, Sem.run_bind, hu, Result.andThen_ok]
    simp
    rw [beq_toListBytes, toList_mk, toList_mk]
    rfl
  · cases h

include hτ in
theorem eqFields_ok (d : Nat) : ∀ (fs : List Field) (k : Nat) (av bs : List V) (la lb : List Value) (x : Bool), plainFields P k fs = true →
    eqCells τ (fs.map fun f => (f.offset, f.type)) av bs = some x → VRs S w av κ (la.drop k) → VRs S w bs κ (lb.drop k) →
    (Op.eqFields (d + 1) la.toArray lb.toArray fs).run P w = .ok x w
  | [], k, av, bs, la, lb, x, _, he, _, _ => by
    cases av <;> cases bs <;> simp [eqCells] at he
    subst he
    simp [Op.eqFields]
  | f :: fs, k, av, bs, la, lb, x, hp, he, ha, hb => by
    cases av with
    | nil => simp [eqCells] at he
    | cons u av =>
      cases bs with
      | nil => simp [eqCells] at he
      | cons v bs =>
        simp only [plainFields, Bool.and_eq_true] at hp
        obtain ⟨⟨⟨hn, hoff⟩, hty⟩, hrest⟩ := hp
        have hoff : f.offset = k := by simpa using hoff
        simp only [List.map_cons, eqCells] at he
        split at he
        · rename_i ty ht
          split at he
          · rename_i y z hy hz
            simp at he
            subst he
            obtain ⟨a, l', hal, ha1, ha2⟩ := ha
            obtain ⟨b, m', hbl, hb1, hb2⟩ := hb
            have hla : la[k]? = some a := by rw [← List.head?_drop, hal]; rfl
            have hlb : lb[k]? = some b := by rw [← List.head?_drop, hbl]; rfl
            have hda : la.drop (k + 1) = l' := by rw [← List.tail_drop, hal]; rfl
            have hdb : lb.drop (k + 1) = m' := by rw [← List.tail_drop, hbl]; rfl
            obtain ⟨h1, h2, h3⟩ := eqLeaf_ok (P := P) hτ ht hy ha1 hb1 d
            have ih := eqFields_ok d fs (k + 1) av bs la lb z hrest hz (by rw [hda]; exact ha2) (by rw [hdb]; exact hb2)
            obtain ⟨i, dd, _, hd, _⟩ := hτ.info ht
            have hagg : isAggK (kOf P dd) = false := by
              rw [hd] at hty
              cases dd <;> simp at hty <;> rfl
            have hne : f.name ≠ "_" := by simpa using hn
            have p1 : (part f.type la.toArray f.offset).run P w = .ok a w := by
              simp [part, run_isAgg_k hd, hagg, hoff, hla]
            have p2 : (part f.type lb.toArray f.offset).run P w = .ok b w := by
              simp [part, run_isAgg_k hd, hagg, hoff, hlb]
            simp only [Op.eqFields, Sem.run_ite, if_pos hne, Sem.run_bind, p1, p2, h1, Result.andThen_ok]
            cases y
            · simp [band]
            · simpa [band] using ih
          · cases he
        · cases he

theorem cellsOf_info {t : TypeId} {i : TypeInfo} (h : P.info? t = some i) : P.cellsOf t = i.size := by simp [Program.cellsOf, h]

include hτ in
theorem eqEls_ok (D : Nat) {f : V → V → Option Bool} {e : TypeId} {size : Nat} {av bs : List V} {la lb : List Value} (ha : VRs S w av κ la) (hb : VRs S w bs κ lb)
    (hf : ∀ u v b cu cv, f u v = some b → VR S w u κ cu → VR S w v κ cv → (Op.equalIn D e cu cv).run P w = .ok b w) : ∀ (m i : Nat) (x : Bool), eqEls τ f e size av bs m i = some x →
    (Op.eqItems D e size la.toArray lb.toArray (List.range' i m)).run P w = .ok x w
  | 0, i, x, h => by
    simp [eqEls] at h
    subst h
    rfl
  | m + 1, i, x, h => by
    simp only [eqEls] at h
    split at h
    · rename_i u v hu hv
      split at h
      · rename_i y z hy hz
        simp at h
        subst h
        obtain ⟨cu, p1, q1, _⟩ := part_ok (P := P) hτ hu ha
        obtain ⟨cv, p2, q2, _⟩ := part_ok (P := P) hτ hv hb
        have p1 : (part e la.toArray (i * size)).run P w = .ok cu w := p1
        have p2 : (part e lb.toArray (i * size)).run P w = .ok cv w := p2
        have ih := eqEls_ok D ha hb hf m (i + 1) z hz
        simp only [List.range'_succ, Op.eqItems, Sem.run_bind, p1, p2, hf u v y cu cv hy q1 q2, Result.andThen_ok]
        cases y
        · simp [band]
        · simpa [band] using ih
      · cases h
    · cases h

include hτ in
theorem eqV_ok : ∀ (d k : Nat) (t : TypeId) (x y : V) (b : Bool) (cx cy : Value), eqV τ d t x y = some b → VR S w x κ cx → VR S w y κ cy → (Op.equalIn (k + d) t cx cy).run P w = .ok b w
  | 0, k, t, x, y, b, cx, cy, h, _, _ => by cases h
  | d + 1, k, t, x, y, b, cx, cy, h, hx, hy => by
    simp only [eqV] at h
    split at h
    · rename_i ty hty
      split at h
      · rename_i n e av bs hk0
        obtain ⟨i, dd, hi, hd, hk, _⟩ := hτ.info hty
        rw [hk0] at hk
        have := kOf_arr hk.symm
        subst this
        split at h
        · rename_i te hte
          obtain ⟨ti, _, hti, _, _, hts, _⟩ := hτ.info hte
          obtain ⟨la, rfl, ha⟩ := hx
          obtain ⟨lb, rfl, hb⟩ := hy
          rw [show k + (d + 1) = (k + d) + 1 from rfl, run_equalIn_array w (k + d) la.toArray lb.toArray hd hti, cellsOf_info hti, List.range_eq_range', ← hts]
          exact eqEls_ok (P := P) hτ (k + d) ha hb (fun u v b cu cv h1 h2 h3 => eqV_ok d k e u v b cu cv h1 h2 h3) n 0 b h
        · cases h
      · exact (eqLeaf_ok (P := P) hτ hty h hx hy (k + d)).1
    · cases h

theorem eqBool_ok {t : Nat} (hd : P.underlying t = some .bool) (a b : Bool) : (binOp .eql t (.bool a) (.bool b)).run P w = .ok (.bool (beqB a b)) w := by
  show ((Op.equalIn 10000 t (.bool a) (.bool b)) >>= fun r => pure (.bool r) : Sem Value).run P w = _
  rw [Sem.run_bind, run_equalIn_bool' w 9999 t a b hd]
  rfl

theorem neBool_ok {t : Nat} (hd : P.underlying t = some .bool) (a b : Bool) : (binOp .neq t (.bool a) (.bool b)).run P w = .ok (.bool (bnot (beqB a b))) w := by
  show ((Op.equalIn 10000 t (.bool a) (.bool b)) >>= fun r => pure (.bool (!r)) : Sem Value).run P w = _
  rw [Sem.run_bind, run_equalIn_bool' w 9999 t a b hd]
  rfl

include hτ in
/-- Arithmetic and comparisons. -/
theorem binV_ok {op : BinOp} {t : Nat} {lit : Bool} {x y v : V} {cx cy : Value} (h : (binV τ op t lit x y).sem = some v) (hx : VR S w x κ cx) (hy : VR S w y κ cy) (xo yo : Operand) :
    ∃ c, (do eqGuard op t xo yo cx cy; binOp op t cx cy : Sem Value).run P w = .ok c w ∧ VR S w v κ c := by
  unfold binV at h
  split at h
  · rename_i k a k' b
    rw [VR_val hx, VR_val hy]
    simp only [Sem.run_bind, eqGuard_at_int, Sem.run_pure, Result.andThen_ok]
    split at h
    · obtain ⟨h1, h2⟩ := sem_br_fail h
      rw [sem_leaf h2]
      have h1 : 0 ≤ b := by simpa [ile] using h1
      refine ⟨_, ?_, rfl⟩
      simp [binOp_shl, Op.shift, wr, ishl]
      omega
    · obtain ⟨h1, h2⟩ := sem_br_fail h
      rw [sem_leaf h2]
      have h1 : 0 ≤ b := by simpa [ile] using h1
      refine ⟨_, ?_, rfl⟩
      simp [binOp_shr, Op.shift, ishr]
      omega
    · split at h
      · cases h
      · rename_i hk
        have hk := ikEq_eq hk
        subst hk
        split at h
        · rw [sem_leaf h]; exact ⟨_, by rw [binOp_add]; rfl, rfl⟩
        · rw [sem_leaf h]; exact ⟨_, by rw [binOp_sub]; rfl, rfl⟩
        · rw [sem_leaf h]; exact ⟨_, by rw [binOp_mul]; rfl, rfl⟩
        · have hb : b ≠ 0 ∧ v = .val (.int k (wr k (itdiv a b))) := by
            split at h
            · split at h
              · cases h
              · rename_i hz
                refine ⟨fun e => ?_, sem_leaf h⟩
                subst e; cases hz
            · obtain ⟨h1, h2⟩ := sem_fail_br h
              exact ⟨by simpa [ieq] using h1, sem_leaf h2⟩
          rw [hb.2]
          exact ⟨_, by rw [binOp_quo]; simp [Op.intDiv, hb.1]; rfl, rfl⟩
        · have hb : b ≠ 0 ∧ v = .val (.int k (itmod a b)) := by
            split at h
            · split at h
              · cases h
              · rename_i hz
                refine ⟨fun e => ?_, sem_leaf h⟩
                subst e; cases hz
            · obtain ⟨h1, h2⟩ := sem_fail_br h
              exact ⟨by simpa [ieq] using h1, sem_leaf h2⟩
          rw [hb.2]
          exact ⟨_, by rw [binOp_rem]; simp [Op.intDiv, hb.1]; rfl, rfl⟩
        · rw [sem_leaf h]; exact ⟨_, by rw [binOp_and]; rfl, rfl⟩
        · rw [sem_leaf h]; exact ⟨_, by rw [binOp_or]; rfl, rfl⟩
        · rw [sem_leaf h]; exact ⟨_, by rw [binOp_xor]; rfl, rfl⟩
        · rw [sem_leaf h]; exact ⟨_, by rw [binOp_andNot]; rfl, rfl⟩
        · rw [sem_leaf h]; exact ⟨_, by rw [binOp_eql]; rfl, rfl⟩
        · rw [sem_leaf h]; exact ⟨_, by rw [binOp_neq]; rfl, rfl⟩
        · rw [sem_leaf h]; exact ⟨_, by rw [binOp_lss]; rfl, rfl⟩
        · rw [sem_leaf h]; exact ⟨_, by rw [binOp_leq]; rfl, rfl⟩
        · rw [sem_leaf h]; exact ⟨_, by rw [binOp_gtr]; rfl, rfl⟩
        · rw [sem_leaf h]; exact ⟨_, by rw [binOp_geq]; rfl, rfl⟩
        · cases h
  · rename_i a b
    rw [VR_val hx, VR_val hy]
    simp only [Sem.run_bind, eqGuard_at_bool, Sem.run_pure, Result.andThen_ok]
    split at h
    · rename_i ty hty
      obtain ⟨i, dd, _, hd, hk, _⟩ := hτ.info hty
      split at h
      · rename_i hkk
        rw [hkk] at hk
        have := kOf_bool hk.symm
        subst this
        rw [sem_leaf h]
        exact ⟨_, eqBool_ok (P := P) hd a b, rfl⟩
      · rename_i hkk
        rw [hkk] at hk
        have := kOf_bool hk.symm
        subst this
        rw [sem_leaf h]
        exact ⟨_, neBool_ok (P := P) hd a b, rfl⟩
      · cases h
    · cases h
  · rename_i a b
    rw [VR_str hx, VR_str hy]
    simp only [Sem.run_bind, eqGuard_at_string, Sem.run_pure, Result.andThen_ok]
    split at h
    · obtain ⟨h1, h2⟩ := sem_br_fail h
      rw [sem_leaf h2]
      have h1 : a.length + b.length ≤ 9223372036854775807 := by simpa [strOK] using h1
      refine ⟨.string ⟨(a ++ b).toArray⟩, ?_, rfl⟩
      have e1 : (⟨a.toArray⟩ : ByteArray).size = a.length := by simp [ByteArray.size]
      have e2 : (⟨b.toArray⟩ : ByteArray).size = b.length := by simp [ByteArray.size]
      have e3 : (⟨a.toArray⟩ : ByteArray) ++ ⟨b.toArray⟩ = ⟨(a ++ b).toArray⟩ := by
        apply ByteArray.ext
        simp
      simp [binOp, Op.stringOp, e1, e2, e3]
      omega
    · rw [sem_leaf h]; exact ⟨_, by show (Op.stringOp .eql _ _).run P w = _; simp only [Op.stringOp, toList_mk]; exact rfl, rfl⟩
    · rw [sem_leaf h]; exact ⟨_, by show (Op.stringOp .neq _ _).run P w = _; simp only [Op.stringOp, toList_mk]; exact rfl, rfl⟩
    · rw [sem_leaf h]; exact ⟨_, by show (Op.stringOp .lss _ _).run P w = _; simp only [Op.stringOp, toList_mk]; exact rfl, rfl⟩
    · rw [sem_leaf h]; exact ⟨_, by show (Op.stringOp .leq _ _).run P w = _; simp only [Op.stringOp, toList_mk]; exact rfl, rfl⟩
    · rw [sem_leaf h]; exact ⟨_, by show (Op.stringOp .gtr _ _).run P w = _; simp only [Op.stringOp, toList_mk]; exact rfl, rfl⟩
    · rw [sem_leaf h]; exact ⟨_, by show (Op.stringOp .geq _ _).run P w = _; simp only [Op.stringOp, toList_mk]; exact rfl, rfl⟩
    · cases h
  · rename_i a b
    obtain ⟨la, rfl, ha⟩ := hx
    obtain ⟨lb, rfl, hb⟩ := hy
    split at h
    · rename_i ty hty
      obtain ⟨i, dd, _, hd, hk, _, _, _, hpl⟩ := hτ.info hty
      split at h
      · rename_i fs hp hkk
        rw [hkk] at hk
        obtain ⟨gs, rfl, rfl⟩ := kOf_st hk.symm
        rw [hpl] at hp
        simp only [plainStruct, hd, Bool.and_eq_true, Bool.not_eq_true'] at hp
        obtain ⟨⟨hp1, hp2⟩, hp3⟩ := hp
        have hfo : P.underlying t = some (.struct (P.fieldsOf t)) := by simp [Program.fieldsOf, hd]
        have hfo2 : P.fieldsOf t = gs := by simp [Program.fieldsOf, hd]
        split at h
        · rename_i x hc
          rw [sem_leaf h]
          have := eqFields_ok (P := P) hτ 9998 gs.toList 0 a b la lb x hp1 hc ha hb
          refine ⟨.bool x, ?_, rfl⟩
          rw [Sem.run_bind, run_eqGuard_agg w .eql t xo yo _ _ hp3]
          simp only [Result.andThen_ok, run_eql_struct, run_equalIn_agg w 9999 t _ _ hfo hp2, hfo2, this]
        · rename_i x hc
          rw [sem_leaf h]
          have := eqFields_ok (P := P) hτ 9998 gs.toList 0 a b la lb x hp1 hc ha hb
          refine ⟨.bool (!x), ?_, rfl⟩
          rw [Sem.run_bind, run_eqGuard_agg w .neq t xo yo _ _ hp3]
          simp only [Result.andThen_ok, run_neq_struct, run_equalIn_agg w 9999 t _ _ hfo hp2, hfo2, this]
        · cases h
      · rename_i n e hp hkk
        rw [hkk] at hk
        have := kOf_arr hk.symm
        subst this
        rw [hpl] at hp
        simp only [plainStruct, hd, Bool.and_eq_true, Bool.not_eq_true'] at hp
        split at h
        · rename_i x hc
          rw [sem_leaf h]
          have := eqV_ok (P := P) hτ 5 9995 t (.agg a) (.agg b) x _ _ hc ⟨la, rfl, ha⟩ ⟨lb, rfl, hb⟩
          refine ⟨.bool x, ?_, rfl⟩
          rw [Sem.run_bind, run_eqGuard_agg w .eql t xo yo _ _ hp.2]
          simp only [Result.andThen_ok, run_eql_struct, this]
        · rename_i x hc
          rw [sem_leaf h]
          have := eqV_ok (P := P) hτ 5 9995 t (.agg a) (.agg b) x _ _ hc ⟨la, rfl, ha⟩ ⟨lb, rfl, hb⟩
          refine ⟨.bool (!x), ?_, rfl⟩
          rw [Sem.run_bind, run_eqGuard_agg w .neq t xo yo _ _ hp.2]
          simp only [Result.andThen_ok, run_neq_struct, this]
        · cases h
      · cases h
    · cases h
  · cases h

theorem unV_ok {op : UnOp} {x v : V} {cx : Value} (h : (unV op x).sem = some v) (hx : VR S w x κ cx) : ∃ c, (Op.unary op cx).run P w = .ok c w ∧ VR S w v κ c := by
  unfold unV at h
  split at h
  · rw [VR_val hx]
    split at h
    · rw [sem_leaf h]; exact ⟨.int _ _, rfl, rfl⟩
    · cases h
  · rw [VR_val hx]
    split at h
    · rw [sem_leaf h]; exact ⟨.bool _, rfl, rfl⟩
    · cases h
  · cases h

include hτ in
theorem convV_ok {src dst : Nat} {x v : V} {cx : Value} (h : (convV τ src dst x).sem = some v) (hx : VR S w x κ cx) : ∃ c, (convert src dst cx).run P w = .ok c w ∧ VR S w v κ c := by
  unfold convV at h
  split at h
  · rw [VR_val hx]
    split at h
    · rename_i t1 t2 h1 h2
      obtain ⟨_, d1, _, hd1, _⟩ := hτ.info h1
      obtain ⟨_, d2, _, hd2, hk, _⟩ := hτ.info h2
      split at h
      · rename_i k hkk
        rw [hkk] at hk
        have := kOf_int hk.symm
        subst this
        rw [sem_leaf h]
        exact ⟨_, by simp [convert, run_underlying hd1, run_underlying hd2, Conv.intToInt]; rfl, rfl⟩
      · cases h
    · cases h
  · rw [VR_str hx]
    split at h
    · rename_i t1 t2 h1 h2
      obtain ⟨_, d1, _, hd1, _⟩ := hτ.info h1
      obtain ⟨_, d2, _, hd2, hk, _⟩ := hτ.info h2
      split at h
      · rename_i hkk
        rw [hkk] at hk
        have := kOf_str hk.symm
        subst this
        rw [sem_leaf h]
        exact ⟨_, by simp [convert, run_underlying hd1, run_underlying hd2], rfl⟩
      · cases h
    · cases h
  · cases h

end
end Go.Sy

