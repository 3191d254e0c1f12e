/-
  Functions known by what they answer: the interface between functions; own memory lent; states that say less. Conditions: as before.
-/
import Derived.Test.YtkcbdemfmjciiaaGreatDoorSyO
namespace Go.Sy

def EnvG (G : Nat → V) (S : Nat → Prop) (w : World) : Prop := ∀ g, VR S w (G g) noK (.pointer (some ⟨g, 0, none⟩))

def RowsB (h : List Blk) : Prop := ∀ (i : Nat) (b : Blk), h[i]? = some b → ∃ e s n g, b = Blk.row e s n g

/-- A call of function f with values that mean vs, in memory S that nobody writes, answers what F says, and writes nothing that was there. -/
def PureC (P : Program) (G : Nat → V) (f : FuncId) (F : List V → T (V × List Blk)) : Prop :=
  Enters P f ∧ ∀ vs cs S w v h', (∀ b, S b → b < w.heap.size) → EnvG G S w → VRs S w vs noK cs → (F vs).sem = some (v, h') →
    RowsB h' ∧ Calls P f cs.toArray w fun e w' => ∃ c κ' S', e = .returned c ∧ Good κ' S' h' w' ∧ VR S' w' v κ' c ∧ Ext noK S [] w κ' S' h' w'

theorem PureC.congr {P : Program} {G : Nat → V} {f : FuncId} {F F' : List V → T (V × List Blk)} (h : PureC P G f F) (hF : ∀ vs r, (F' vs).sem = some r → (F vs).sem = some r) : PureC P G f F' :=
  ⟨h.1, fun vs cs S w v h' h1 h2 h3 h4 => h.2 vs cs S w v h' h1 h2 h3 (hF vs _ h4)⟩

/-- The same of a function that may be done here and now. -/
def PureX (P : Program) (G : Nat → V) (f : FuncId) (F : List V → T (V × List Blk)) : Prop :=
  ∀ vs cs S w v h', (∀ b, S b → b < w.heap.size) → EnvG G S w → VRs S w vs noK cs → (F vs).sem = some (v, h') →
    RowsB h' ∧ Gives P f cs w fun e w' => ∃ c κ' S', e = .returned c ∧ Good κ' S' h' w' ∧ VR S' w' v κ' c ∧ Ext noK S [] w κ' S' h' w'

theorem PureC.x {P : Program} {G : Nat → V} {f : FuncId} {F : List V → T (V × List Blk)} (h : PureC P G f F) : PureX P G f F := fun vs cs S w v h' h1 h2 h3 h4 =>
  ⟨(h.2 vs cs S w v h' h1 h2 h3 h4).1, .inl ⟨h.1, (h.2 vs cs S w v h' h1 h2 h3 h4).2⟩⟩

theorem ownB_nil (κ : Nat → Option Value) (i : Nat) : ownB κ [] i = none := by simp [ownB]

theorem Good.empty {S : Nat → Prop} {w : World} (hS : ∀ b, S b → b < w.heap.size) : Good noK S [] w :=
  ⟨fun i b h => (by simp at h), fun i j g _ h => (by rw [ownB_nil] at h; cases h), fun b hb => ⟨hS b hb, fun i h => (by rw [ownB_nil] at h; cases h)⟩, fun _ _ => rfl⟩

/-! ### An answer alone -/

theorem posN_spec {id : Nat} : ∀ {l : List Nat} {i k : Nat}, posN id l i = some k → i ≤ k ∧ l[k - i]? = some id
  | [], _, _, h => by cases h
  | a :: l, i, k, h => by
    simp only [posN] at h
    split at h
    · rename_i ha
      have ha : a = id := Nat.eq_of_beq_eq_true ha
      simp at h
      subst h
      subst ha
      simp
    · obtain ⟨h1, h2⟩ := posN_spec h
      refine ⟨by omega, ?_⟩
      rw [show k - i = (k - Nat.succ i) + 1 by omega]
      simpa using h2

theorem packH_get {h : List Blk} : ∀ {ids : List Nat} {hr : List Blk}, packH h ids = some hr → hr.length = ids.length ∧ ∀ (i : Nat) (b : Blk), hr[i]? = some b → ∃ id, ids[i]? = some id ∧ h[id]? = some b ∧ ∃ e s n g, b = Blk.row e s n g
  | [], hr, hp => by simp [packH] at hp; subst hp; exact ⟨rfl, fun i b hb => by simp at hb⟩
  | id :: ids, hr, hp => by
    simp only [packH] at hp
    split at hp
    · rename_i e s n g bs h1 h2
      simp at hp
      subst hp
      obtain ⟨q1, q2⟩ := packH_get h2
      refine ⟨by simp [q1], fun i b hb => ?_⟩
      cases i with
      | zero =>
        simp at hb
        subst hb
        exact ⟨id, by simp, h1, e, s, n, g, rfl⟩
      | succ i => simpa using q2 i b (by simpa using hb)
    · cases hp

theorem memN_spec {k : Nat} : ∀ {l : List Nat}, memN k l = false → k ∉ l
  | [], _ => by simp
  | a :: l, h => by
    simp only [memN] at h
    split at h
    · cases h
    · rename_i ha
      have := Nat.ne_of_beq_eq_false ha
      simp only [List.mem_cons, not_or]
      exact ⟨fun e => this e.symm, memN_spec h⟩

theorem nodupN_spec : ∀ {l : List Nat}, nodupN l = true → ∀ (i j k : Nat), l[i]? = some k → l[j]? = some k → i = j
  | [], _, i, j, k, h, _ => by simp at h
  | a :: l, h, i, j, k, hi, hj => by
    simp only [nodupN] at h
    split at h
    · cases h
    · rename_i hm
      have hn := memN_spec hm
      cases i with
      | zero =>
        cases j with
        | zero => rfl
        | succ j =>
          simp at hi hj
          subst hi
          exact absurd (List.mem_of_getElem? hj) hn
      | succ i =>
        cases j with
        | zero =>
          simp at hi hj
          subst hj
          exact absurd (List.mem_of_getElem? hi) hn
        | succ j =>
          simp at hi hj
          rw [nodupN_spec h i j k hi hj]

section
variable {S : Nat → Prop} {w : World} {κ : Nat → Option Value} {ids : List Nat}

mutual
theorem VR_pack : ∀ (v : V) (c : Value), VR S w v κ c → VR S w (packV ids v) (fun i => (ids[i]?).bind κ) c
  | .val _, _, h => h
  | .str _, _, h => h
  | .agg cs, _, h => by
    obtain ⟨ca, e, h⟩ := h
    exact ⟨ca, e, VRs_packs cs _ h⟩
  | .tup cs, _, h => by
    obtain ⟨ca, e, h⟩ := h
    exact ⟨ca, e, VRs_packs cs _ h⟩
  | .fn f cs, _, h => by
    obtain ⟨ca, e, h⟩ := h
    exact ⟨ca, e, VRs_packs cs _ h⟩
  | .nilS, _, h => h
  | .sl _ _ _, _, h => h
  | .slr _ _ _ _, _, h => h
  | .pp _, _, h => h
  | .ptr _ _, _, _ => trivial
  | .ref id, _, h => by
    simp only [packV]
    split
    · rename_i k hk
      obtain ⟨_, h2⟩ := posN_spec hk
      refine ⟨?_, h.2⟩
      rw [Nat.sub_zero] at h2
      show (ids[k]?).bind κ = _
      rw [h2]
      exact h.1
    · trivial
  | .ept _ _ _ _, _, _ => trivial
  | .und, _, _ => trivial
theorem VRs_packs : ∀ (vs : List V) (l : List Value), VRs S w vs κ l → VRs S w (packV.packs ids vs) (fun i => (ids[i]?).bind κ) l
  | [], _, h => h
  | v :: vs, _, h => by
    obtain ⟨a, l', e, h1, h2⟩ := h
    exact ⟨a, l', e, VR_pack v _ h1, VRs_packs vs _ h2⟩
end

theorem pack_rows {h hr : List Blk} {v r : V} (hp : pack v h = some (r, hr)) : RowsB hr := by
  unfold pack at hp
  split at hp
  · rename_i hr' _ hph
    simp at hp
    obtain ⟨_, rfl⟩ := hp
    exact fun i b hb => ((packH_get hph).2 i b hb).elim fun _ q => q.2.2
  · cases hp

theorem pack_ok {h hr : List Blk} {v r : V} {c : Value} (hg : Good κ S h w) (hv : VR S w v κ c) (hp : pack v h = some (r, hr)) :
    ∃ κ', Good κ' S hr w ∧ VR S w r κ' c ∧ ∀ i b, ownB κ' hr i = some b → ∃ j, ownB κ h j = some b := by
  unfold pack at hp
  split at hp
  · rename_i hr' hnd hph
    simp at hp
    obtain ⟨rfl, rfl⟩ := hp
    obtain ⟨hlen, hget⟩ := packH_get hph
    have hown : ∀ i b, ownB (fun i => ((refsOf v)[i]?).bind κ) hr' i = some b → ∃ id, (refsOf v)[i]? = some id ∧ ownB κ h id = some b := by
      intro i b hb
      obtain ⟨bl, q1, q2, q3⟩ := ownB_some hb
      obtain ⟨id, q4, q5, _⟩ := hget i bl q1
      rw [q4] at q3
      exact ⟨id, q4, by rw [ownB_of q5 q2]; exact q3⟩
    refine ⟨fun i => ((refsOf v)[i]?).bind κ, ⟨?_, ?_, ?_, ?_⟩, VR_pack v c hv, fun i b hb => by
      obtain ⟨id, _, q⟩ := hown i b hb
      exact ⟨id, q⟩⟩
    · intro i b hb
      obtain ⟨id, q1, q2, e, s, n, g, rfl⟩ := hget i b hb
      have := hg.blk id _ q2
      rw [q1]
      exact this
    · intro i j g hij hi hj
      obtain ⟨id, q1, q2⟩ := hown i g hi
      obtain ⟨id', q3, q4⟩ := hown j g hj
      by_cases he : id = id'
      · subst he
        exact hij (nodupN_spec hnd i j id q1 q3)
      · exact hg.sep id id' g he q2 q4
    · intro b hb
      refine ⟨(hg.out b hb).1, fun i hi => ?_⟩
      obtain ⟨id, _, q⟩ := hown i b hi
      exact (hg.out b hb).2 id q
    · intro i hi
      show ((refsOf v)[i]?).bind κ = none
      rw [List.getElem?_eq_none (by omega)]
      rfl
  · cases hp
end

theorem Ext.ofNil {κ κ' : Nat → Option Value} {S S' : Nat → Prop} {h' : List Blk} {w w' : World} (os : w'.os = w.os) (tape : w'.tape = w.tape) (output : w'.output = w.output) (size : w.heap.size ≤ w'.heap.size)
    (keep : ∀ b, b < w.heap.size → (∀ i, ownB κ [] i ≠ some b) → w'.heap[b]? = w.heap[b]?) (own : ∀ i b, ownB κ' h' i = some b → (∃ j, ownB κ [] j = some b) ∨ w.heap.size ≤ b)
    (sub : ∀ b, S' b → S b ∨ (∃ j, ownB κ [] j = some b) ∨ w.heap.size ≤ b) (sup : ∀ b, S b → S' b) (rows : RowsB h') : Ext κ S [] w κ' S' h' w' :=
  ⟨os, tape, output, size, keep, own, sub, sup, pre_of size keep (fun i b hi hb => (own i b hi).elim (fun ⟨j, hj⟩ => by rw [ownB_nil] at hj; cases hj) (fun q => by omega)) (fun i _ _ _ _ _ hi => by simp at hi),
    fun i e s n g hi => by obtain ⟨_, _, _, _, hr⟩ := rows i _ hi; cases hr⟩

/-- A function by its body. -/
theorem pureC_of_eval {P : Program} {τ : List Ty} (hτ : TabOK P τ) (hm : P.follows .mixedOrders = true) {Γ : Cx} (hΓ : CallOK P Γ.base) (hΛ : LoopOK Γ) {f : FuncId} {fn : Func} {c : Code} (hf : P.funcs[f]? = some fn)
    (hb : fn.body = some c) (hn : fn.name ≠ "runtime.NumGoroutine") : PureC P Γ.glob f fun vs => finF (evalF τ Γ fn vs []) := by
  refine ⟨⟨fn, hf, hn, by rw [hb]; rfl⟩, fun vs cs S w v h' hS hE hv he => ?_⟩
  obtain ⟨⟨v1, h1⟩, q1, q2⟩ := sem_bind_some he
  have q2 := sem_ofOpt q2
  refine ⟨pack_rows q2, (evalF_ok (P := P) hτ hm hΓ hΛ hf hb (Good.empty hS) hE hv q1).mono ?_⟩
  rintro e w' ⟨u, κ', S', rfl, g1, g2, g3⟩
  obtain ⟨κ2, p1, p2, p3⟩ := pack_ok g1 g2 q2
  refine ⟨u, κ2, S', rfl, p1, p2, Ext.ofNil g3.os g3.tape g3.output g3.size g3.keep (fun i b hb => ?_) g3.sub g3.sup (pack_rows q2)⟩
  obtain ⟨j, hj⟩ := p3 i b hb
  exact g3.own j b hj

/-! ### Own memory lent -/

section
variable {S : Nat → Prop} {w : World} {κ : Nat → Option Value} {h : List Blk}

/-- What a callee may read: what nobody writes, and what is lent. -/
def lentS (S : Nat → Prop) (κ : Nat → Option Value) (h : List Blk) : Nat → Prop := fun b => S b ∨ ∃ i, ownB κ h i = some b

mutual
theorem VR_lend (hg : Good κ S h w) : ∀ (v v' : V) (c : Value), lend h v = some v' → VR S w v κ c → VR (lentS S κ h) w v' noK c
  | .val _, _, _, hl, hv => by simp only [lend, Option.some.injEq] at hl; subst hl; exact hv
  | .str _, _, _, hl, hv => by simp only [lend, Option.some.injEq] at hl; subst hl; exact hv
  | .agg cs, _, _, hl, hv => by
    simp only [lend] at hl
    split at hl
    · rename_i l hls
      simp only [Option.some.injEq] at hl
      subst hl
      obtain ⟨ca, e, hv⟩ := hv
      exact ⟨ca, e, VRs_lends hg cs _ _ hls hv⟩
    · cases hl
  | .tup cs, _, _, hl, hv => by
    simp only [lend] at hl
    split at hl
    · rename_i l hls
      simp only [Option.some.injEq] at hl
      subst hl
      obtain ⟨ca, e, hv⟩ := hv
      exact ⟨ca, e, VRs_lends hg cs _ _ hls hv⟩
    · cases hl
  | .fn f cs, _, _, hl, hv => by
    simp only [lend] at hl
    split at hl
    · rename_i l hls
      simp only [Option.some.injEq] at hl
      subst hl
      obtain ⟨ca, e, hv⟩ := hv
      exact ⟨ca, e, VRs_lends hg cs _ _ hls hv⟩
    · cases hl
  | .nilS, _, c, hl, hv => by
    simp only [lend, Option.some.injEq] at hl
    subst hl
    have hv : c = .slice none 0 0 := hv
    exact ⟨none, 0, hv, Nat.le_refl _, .inl rfl⟩
  | .sl s n g, _, _, hl, hv => by
    simp only [lend, Option.some.injEq] at hl
    subst hl
    exact VR_free (.sl s n g) _ rfl (VR.mono (S' := lentS S κ h) (w' := w) (fun b hb => ⟨Or.inl hb, rfl⟩) (.sl s n g) κ κ _ (fun _ _ h => h) hv)
  | .slr s n m g, _, _, hl, hv => by
    simp only [lend, Option.some.injEq] at hl
    subst hl
    exact VR_free (.slr s n m g) _ rfl (VR.mono (S' := lentS S κ h) (w' := w) (fun b hb => ⟨Or.inl hb, rfl⟩) (.slr s n m g) κ κ _ (fun _ _ h => h) hv)
  | .pp v, _, _, hl, hv => by
    simp only [lend, Option.some.injEq] at hl
    subst hl
    exact VR_free (.pp v) _ rfl (VR.mono (S' := lentS S κ h) (w' := w) (fun b hb => ⟨Or.inl hb, rfl⟩) (.pp v) κ κ _ (fun _ _ h => h) hv)
  | .ptr id 0, _, c, hl, hv => by
    simp only [lend] at hl
    split at hl
    · rename_i cs hh
      split at hl
      · rename_i hf
        simp only [Option.some.injEq] at hl
        subst hl
        obtain ⟨g, e, ca, hk, hgw, hvs⟩ := hg.blk id _ hh
        obtain ⟨g', hk', hc⟩ := hv
        rw [hk] at hk'
        simp at hk'
        subst hk'
        have hown : ownB κ h id = some g := by rw [ownB_of hh (by simp), hk]; rfl
        refine ⟨g, 0, .agg ca, hc, ⟨ca.toList, by simp, VRs_free cs _ hf (VR.mono_go (S' := lentS S κ h) (fun b hb => ⟨Or.inl hb, rfl⟩) cs κ κ _ (fun _ _ h => h) hvs)⟩, fun j u hj => ⟨.inr ⟨id, hown⟩, ?_⟩⟩
        have hj : ca.toList[j]? = some u := hj
        rw [Nat.zero_add, cell_of_row w g _ ca e (0, 0) hgw]
        rw [Array.getElem?_toList] at hj
        exact hj
      · cases hl
    · cases hl
  | .ptr _ (_ + 1), _, _, hl, _ => by cases hl
  | .ref id, _, _, hl, hv => by
    simp only [lend] at hl
    split at hl
    · rename_i e s n g hh
      simp only [Option.some.injEq] at hl
      subst hl
      obtain ⟨hs0, c0, xs, hk, ho, he⟩ := blk_row (st := ⟨[], h⟩) hg hh
      obtain ⟨hk', _⟩ := hv
      rw [hk] at hk'
      simp at hk'
      subst hk'
      rcases ho.2 with ⟨rfl, h0⟩ | ⟨g', cap, cur, rfl, _, hgw, hnc, _, hsz, htake⟩
      · exact ⟨none, 0, by rw [h0], by omega, .inl h0⟩
      · refine ⟨_, cap, rfl, hnc, .inr ⟨g', 0, rfl, fun i hi => ?_⟩⟩
        obtain ⟨ci, q1, q2, q3, q4⟩ := he i hi
        refine ⟨ci, VR.mono (S' := lentS S κ h) (fun b hb => ⟨Or.inl hb, rfl⟩) _ _ _ _ (fun _ _ h => h) q1, q2, q3, fun j u hj => ?_⟩
        have hown : ownB κ h id = some g' := by rw [ownB_of hh (by simp), hk]; rfl
        refine ⟨.inr ⟨id, hown⟩, ?_⟩
        have hjs : j < s := by
          have := (List.getElem?_eq_some_iff.1 hj).1
          rw [Array.length_toList] at this
          omega
        have := q4 j hjs
        rw [← htake, List.getElem?_take, if_pos (flat_lt hi hjs)] at this
        rw [Nat.zero_add, cell_of_row w g' _ cur e (0, 0) hgw]
        rw [Array.getElem?_toList] at this hj
        rw [this]
        exact hj
    · cases hl
  | .ept _ _ _ _, _, _, hl, _ => by cases hl
  | .und, _, _, hl, _ => by cases hl
theorem VRs_lends (hg : Good κ S h w) : ∀ (vs vs' : List V) (l : List Value), lend.lends h vs = some vs' → VRs S w vs κ l → VRs (lentS S κ h) w vs' noK l
  | [], _, _, hl, hv => by simp only [lend.lends, Option.some.injEq] at hl; subst hl; exact hv
  | v :: vs, _, _, hl, hv => by
    simp only [lend.lends] at hl
    split at hl
    · rename_i a b ha hb
      simp only [Option.some.injEq] at hl
      subst hl
      obtain ⟨x, l', e, h1, h2⟩ := hv
      exact ⟨x, l', e, VR_lend hg v _ _ ha h1, VRs_lends hg vs _ _ hb h2⟩
    · cases hl
end

mutual
/-- Where nothing own is named, nothing is lent. -/
theorem VR_lend_free : ∀ (v v' : V) (c : Value), free v = true → lend h v = some v' → VR S w v κ c → VR S w v' noK c
  | .val _, _, _, _, hl, hv => by simp only [lend, Option.some.injEq] at hl; subst hl; exact hv
  | .str _, _, _, _, hl, hv => by simp only [lend, Option.some.injEq] at hl; subst hl; exact hv
  | .agg cs, _, _, hf, hl, hv => by
    simp only [lend] at hl
    split at hl
    · rename_i l hls
      simp only [Option.some.injEq] at hl
      subst hl
      obtain ⟨ca, e, hv⟩ := hv
      exact ⟨ca, e, VRs_lend_free cs _ _ hf hls hv⟩
    · cases hl
  | .tup cs, _, _, hf, hl, hv => by
    simp only [lend] at hl
    split at hl
    · rename_i l hls
      simp only [Option.some.injEq] at hl
      subst hl
      obtain ⟨ca, e, hv⟩ := hv
      exact ⟨ca, e, VRs_lend_free cs _ _ hf hls hv⟩
    · cases hl
  | .fn f cs, _, _, hf, hl, hv => by
    simp only [lend] at hl
    split at hl
    · rename_i l hls
      simp only [Option.some.injEq] at hl
      subst hl
      obtain ⟨ca, e, hv⟩ := hv
      exact ⟨ca, e, VRs_lend_free cs _ _ hf hls hv⟩
    · cases hl
  | .nilS, _, c, _, hl, hv => by
    simp only [lend, Option.some.injEq] at hl
    subst hl
    have hv : c = .slice none 0 0 := hv
    exact ⟨none, 0, hv, Nat.le_refl _, .inl rfl⟩
  | .sl s n g, _, _, _, hl, hv => by
    simp only [lend, Option.some.injEq] at hl
    subst hl
    exact VR_free (.sl s n g) _ rfl hv
  | .slr s n m g, _, _, _, hl, hv => by
    simp only [lend, Option.some.injEq] at hl
    subst hl
    exact VR_free (.slr s n m g) _ rfl hv
  | .pp v, _, _, _, hl, hv => by
    simp only [lend, Option.some.injEq] at hl
    subst hl
    exact VR_free (.pp v) _ rfl hv
  | .ptr _ _, _, _, hf, _, _ => by cases hf
  | .ref _, _, _, hf, _, _ => by cases hf
  | .ept _ _ _ _, _, _, hf, _, _ => by cases hf
  | .und, _, _, _, hl, _ => by cases hl
theorem VRs_lend_free : ∀ (vs vs' : List V) (l : List Value), free.frees vs = true → lend.lends h vs = some vs' → VRs S w vs κ l → VRs S w vs' noK l
  | [], _, _, _, hl, hv => by simp only [lend.lends, Option.some.injEq] at hl; subst hl; exact hv
  | v :: vs, _, _, hf, hl, hv => by
    simp only [free.frees] at hf
    split at hf
    · rename_i hfv
      simp only [lend.lends] at hl
      split at hl
      · rename_i a b ha hb
        simp only [Option.some.injEq] at hl
        subst hl
        obtain ⟨x, l', e, h1, h2⟩ := hv
        exact ⟨x, l', e, VR_lend_free v _ _ hfv ha h1, VRs_lend_free vs _ _ hf hb h2⟩
      · cases hl
    · cases hf
end

mutual
theorem VR_bare {S' : Nat → Prop} {w' : World} : ∀ (v : V) (κ : Nat → Option Value) (c : Value), bare v = true → VR S w v κ c → VR S' w' v κ c
  | .val _, _, _, _, hv => hv
  | .str _, _, _, _, hv => hv
  | .agg cs, _, _, hb, hv => by
    obtain ⟨ca, e, hv⟩ := hv
    exact ⟨ca, e, VRs_bare cs _ _ hb hv⟩
  | .tup cs, _, _, hb, hv => by
    obtain ⟨ca, e, hv⟩ := hv
    exact ⟨ca, e, VRs_bare cs _ _ hb hv⟩
  | .fn f cs, _, _, hb, hv => by
    obtain ⟨ca, e, hv⟩ := hv
    exact ⟨ca, e, VRs_bare cs _ _ hb hv⟩
  | .nilS, _, _, _, hv => hv
  | .sl _ _ _, _, _, hb, _ => by cases hb
  | .slr _ _ _ _, _, _, hb, _ => by cases hb
  | .pp _, _, _, hb, _ => by cases hb
  | .ptr _ _, _, _, _, hv => hv
  | .ref _, _, _, _, hv => hv
  | .ept _ _ _ _, _, _, _, hv => hv
  | .und, _, _, _, _ => trivial
theorem VRs_bare {S' : Nat → Prop} {w' : World} : ∀ (vs : List V) (κ : Nat → Option Value) (l : List Value), bare.bares vs = true → VRs S w vs κ l → VRs S' w' vs κ l
  | [], _, _, _, hv => hv
  | v :: vs, _, _, hb, hv => by
    simp only [bare.bares] at hb
    split at hb
    · rename_i hbv
      obtain ⟨x, l', e, h1, h2⟩ := hv
      exact ⟨x, l', e, VR_bare v _ _ hbv h1, VRs_bare vs _ _ hb h2⟩
    · cases hb
end

/-- Names behind others. -/
def behindK (κ κ' : Nat → Option Value) (n : Nat) : Nat → Option Value := fun i => if i < n then κ i else κ' (i - n)

mutual
theorem VR_shift {n : Nat} {κ' : Nat → Option Value} : ∀ (v : V) (c : Value), VR S w v κ' c → VR S w (shift n v) (behindK κ κ' n) c
  | .val _, _, hv => hv
  | .str _, _, hv => hv
  | .agg cs, _, hv => by
    obtain ⟨ca, e, hv⟩ := hv
    exact ⟨ca, e, VRs_shifts cs _ hv⟩
  | .tup cs, _, hv => by
    obtain ⟨ca, e, hv⟩ := hv
    exact ⟨ca, e, VRs_shifts cs _ hv⟩
  | .fn f cs, _, hv => by
    obtain ⟨ca, e, hv⟩ := hv
    exact ⟨ca, e, VRs_shifts cs _ hv⟩
  | .nilS, _, hv => hv
  | .sl _ _ _, _, hv => hv
  | .slr _ _ _ _, _, hv => hv
  | .pp _, _, hv => hv
  | .ptr id o, _, hv => by
    obtain ⟨g, h1, h2⟩ := hv
    exact ⟨g, by show behindK κ κ' n (n + id) = _; unfold behindK; rw [if_neg (by omega), Nat.add_sub_cancel_left]; exact h1, h2⟩
  | .ref id, _, hv => ⟨by show behindK κ κ' n (n + id) = _; unfold behindK; rw [if_neg (by omega), Nat.add_sub_cancel_left]; exact hv.1, hv.2⟩
  | .ept id s i o, _, hv => by
    obtain ⟨g, m, cap, h1, h2⟩ := hv
    exact ⟨g, m, cap, by show behindK κ κ' n (n + id) = _; unfold behindK; rw [if_neg (by omega), Nat.add_sub_cancel_left]; exact h1, h2⟩
  | .und, _, _ => trivial
theorem VRs_shifts {n : Nat} {κ' : Nat → Option Value} : ∀ (vs : List V) (l : List Value), VRs S w vs κ' l → VRs S w (shift.shifts n vs) (behindK κ κ' n) l
  | [], _, hv => hv
  | v :: vs, _, hv => by
    obtain ⟨x, l', e, h1, h2⟩ := hv
    exact ⟨x, l', e, VR_shift v _ h1, VRs_shifts vs _ h2⟩
end

theorem rowsBare_spec : ∀ {l : List Blk}, rowsBare l = true → ∀ (i : Nat) (b : Blk), l[i]? = some b → ∃ e s n g, b = .row e s n g ∧ ∀ i, i < n → bare (g i) = true
  | [], _, i, b, hi => by simp at hi
  | .row e s n g :: l, hb, i, b, hi => by
    simp only [rowsBare, Bool.and_eq_true] at hb
    cases i with
    | zero =>
      simp at hi
      subst hi
      refine ⟨e, s, n, g, rfl, fun i hi => ?_⟩
      exact List.all_eq_true.1 hb.1 i (by simpa using hi)
    | succ i => exact rowsBare_spec hb.2 i b (by simpa using hi)
  | .cells _ :: _, hb, _, _, _ => by cases hb
  | .dead :: _, hb, _, _, _ => by cases hb

end

/-- Own blocks, and those of an answer behind them. -/
theorem Good.join {S S1 S2 : Nat → Prop} {w w' : World} {κ κ1 : Nat → Option Value} {h h1 : List Blk} (hg : Good κ S h w) (hg1 : Good κ1 S1 h1 w')
    (hw : ∀ b, b < w.heap.size → w'.heap[b]? = w.heap[b]?) (hnew : ∀ i b, ownB κ1 h1 i = some b → w.heap.size ≤ b)
    (hold : ∀ b, S b → S2 b) (hout : ∀ b, S2 b → b < w'.heap.size ∧ (∀ i, ownB κ h i ≠ some b) ∧ ∀ i, ownB κ1 h1 i ≠ some b)
    (hblk : ∀ i b, h1[i]? = some b → Holds S2 w' (behindK κ κ1 h.length) (κ1 i) b) :
    Good (behindK κ κ1 h.length) S2 (h ++ h1) w' ∧ (∀ id c, κ id = some c → behindK κ κ1 h.length id = some c) ∧
      ∀ i b, ownB (behindK κ κ1 h.length) (h ++ h1) i = some b → (∃ j, ownB κ h j = some b) ∨ (∃ j, ownB κ1 h1 j = some b) := by
  have hk : ∀ id c, κ id = some c → behindK κ κ1 h.length id = some c := by
    intro id c hc
    unfold behindK
    rw [if_pos]
    · exact hc
    · rcases Nat.lt_or_ge id h.length with hl | hl
      · exact hl
      · rw [hg.dom id hl] at hc; cases hc
  have own1 : ∀ i, i < h.length → ownB (behindK κ κ1 h.length) (h ++ h1) i = ownB κ h i := by
    intro i hi
    unfold ownB behindK
    rw [List.getElem?_append_left hi, if_pos hi]
  have own2 : ∀ i, h.length ≤ i → ownB (behindK κ κ1 h.length) (h ++ h1) i = ownB κ1 h1 (i - h.length) := by
    intro i hi
    unfold ownB behindK
    rw [List.getElem?_append_right hi, if_neg (by omega)]
  have hS : ∀ b, S b → S2 b ∧ w'.heap[b]? = w.heap[b]? := fun b hb => ⟨hold b hb, hw b (hg.out b hb).1⟩
  refine ⟨⟨?_, ?_, ?_, ?_⟩, hk, ?_⟩
  · intro i b hi
    rcases Nat.lt_or_ge i h.length with hl | hl
    · rw [List.getElem?_append_left hl] at hi
      have : behindK κ κ1 h.length i = κ i := by unfold behindK; rw [if_pos hl]
      rw [this]
      by_cases hd : b = .dead
      · subst hd; trivial
      · exact (hg.blk i b hi).mono hS hk fun k hk' => hw k ((hg.blk i b hi).lt hd hk')
    · rw [List.getElem?_append_right hl] at hi
      have : behindK κ κ1 h.length i = κ1 (i - h.length) := by unfold behindK; rw [if_neg (by omega)]
      rw [this]
      exact hblk _ b hi
  · intro i j g hij hi hj
    rcases Nat.lt_or_ge i h.length with hl | hl
    · rw [own1 i hl] at hi
      rcases Nat.lt_or_ge j h.length with hl' | hl'
      · rw [own1 j hl'] at hj
        exact hg.sep i j g hij hi hj
      · rw [own2 j hl'] at hj
        have := hg.lt hi
        have := hnew _ _ hj
        omega
    · rw [own2 i hl] at hi
      rcases Nat.lt_or_ge j h.length with hl' | hl'
      · rw [own1 j hl'] at hj
        have := hg.lt hj
        have := hnew _ _ hi
        omega
      · rw [own2 j hl'] at hj
        exact hg1.sep _ _ g (by omega) hi hj
  · intro b hb
    obtain ⟨q1, q2, q3⟩ := hout b hb
    refine ⟨q1, fun i hi => ?_⟩
    rcases Nat.lt_or_ge i h.length with hl | hl
    · rw [own1 i hl] at hi; exact q2 i hi
    · rw [own2 i hl] at hi; exact q3 _ hi
  · intro i hi
    simp at hi
    unfold behindK
    rw [if_neg (by omega)]
    exact hg1.dom _ (by omega)
  · intro i b hi
    rcases Nat.lt_or_ge i h.length with hl | hl
    · rw [own1 i hl] at hi; exact .inl ⟨i, hi⟩
    · rw [own2 i hl] at hi; exact .inr ⟨_, hi⟩

theorem after_rows {h l : List Blk} (hl : RowsB l) : after h l = h ++ l := by
  unfold after
  split
  · simp
  · obtain ⟨_, _, _, _, e⟩ := hl 0 _ rfl
    cases e
  · rfl

/-- What is left where blocks are joined behind the old ones. -/
theorem Ext.join {κ κ1 : Nat → Option Value} {S S2 : Nat → Prop} {h h1 : List Blk} {w w' : World} (hg : Good κ S h w) (os : w'.os = w.os) (tape : w'.tape = w.tape) (output : w'.output = w.output) (size : w.heap.size ≤ w'.heap.size)
    (hkeep : ∀ b, b < w.heap.size → w'.heap[b]? = w.heap[b]?) (hnew : ∀ i b, ownB κ1 h1 i = some b → w.heap.size ≤ b)
    (j3 : ∀ i b, ownB (behindK κ κ1 h.length) (h ++ h1) i = some b → (∃ j, ownB κ h j = some b) ∨ (∃ j, ownB κ1 h1 j = some b))
    (sub : ∀ b, S2 b → S b ∨ (∃ j, ownB κ h j = some b) ∨ w.heap.size ≤ b) (sup : ∀ b, S b → S2 b) (rows : RowsB h1) : Ext κ S h w (behindK κ κ1 h.length) S2 (h ++ h1) w' := by
  refine ⟨os, tape, output, size, fun b hb _ => hkeep b hb, fun i b hi => (j3 i b hi).elim .inl (fun ⟨j, hj⟩ => .inr (hnew j b hj)), sub, sup, pre_of size (fun b hb _ => hkeep b hb) ?_
    (fun i e s n g b hi hb => Kept.same (hkeep b (hg.lt hb))), ?_⟩
  · intro i b hi hb
    rcases Nat.lt_or_ge i h.length with hl | hl
    · refine ⟨i, ?_, fun e s n g hh => ⟨e, s, n, g, by rw [List.getElem?_append_left hl]; exact hh, Nat.le_refl _⟩⟩
      rw [← hi]
      unfold ownB behindK
      rw [List.getElem?_append_left hl, if_pos hl]
    · have : ownB κ1 h1 (i - h.length) = some b := by
        rw [← hi]
        unfold ownB behindK
        rw [List.getElem?_append_right hl, if_neg (by omega)]
      have := hnew _ _ this
      omega
  · intro i e s n g hi
    rcases Nat.lt_or_ge i h.length with hl | hl
    · rw [List.getElem?_append_left hl] at hi
      exact ⟨by unfold behindK; rw [if_pos hl], g, hi⟩
    · rw [List.getElem?_append_right hl] at hi
      obtain ⟨_, _, _, _, e⟩ := rows _ _ hi
      cases e

theorem callF_ok {P : Program} {G : Nat → V} {f : FuncId} {F : List V → T (V × List Blk)} (hp : PureX P G f F) {κ : Nat → Option Value} {S : Nat → Prop} {h : List Blk} {w : World} {vs : List V} {cs : List Value}
    {v : V} {h' : List Blk} (hg : Good κ S h w) (hE : EnvG G S w) (hv : VRs S w vs κ cs) (he : (callF F vs h).sem = some (v, h')) :
    Gives P f cs w fun e w' => ∃ c κ' S', e = .returned c ∧ Good κ' S' (after h h') w' ∧ VR S' w' v κ' c ∧ Ext κ S h w κ' S' (after h h') w' ∧ ∀ id c, κ id = some c → κ' id = some c := by
  unfold callF at he
  split at he
  · cases he
  · rename_i vs' hl
    obtain ⟨⟨r, hr⟩, h1, h2⟩ := sem_bind_some he
    split at h2
    · rename_i hfree
      have := sem_leaf h2
      simp only [Prod.mk.injEq] at this
      obtain ⟨rfl, rfl⟩ := this
      have hS : ∀ b, S b → b < w.heap.size := fun b hb => (hg.out b hb).1
      obtain ⟨hrows, hcalls⟩ := hp vs' cs S w r h' hS hE (VRs_lend_free vs vs' cs hfree hl hv) h1
      refine hcalls.mono ?_
      rintro e w' ⟨c, κ1, S1, rfl, g1, g2, g3⟩
      have hkeep : ∀ b, b < w.heap.size → w'.heap[b]? = w.heap[b]? := fun b hb => g3.keep b hb (fun i hi => by rw [ownB_nil] at hi; cases hi)
      have hnew : ∀ i b, ownB κ1 h' i = some b → w.heap.size ≤ b := fun i b hi => (g3.own i b hi).elim (fun ⟨j, hj⟩ => by rw [ownB_nil] at hj; cases hj) id
      have hfar : ∀ b, S1 b → ∀ i, ownB κ h i ≠ some b := fun b hb i hi => by
        rcases g3.sub b hb with q | ⟨j, hj⟩ | q
        · exact (hg.out b q).2 i hi
        · rw [ownB_nil] at hj; cases hj
        · have := hg.lt hi; omega
      obtain ⟨j1, j2, j3⟩ := Good.join (S2 := S1) hg g1 hkeep hnew g3.sup (fun b hb => ⟨(g1.out b hb).1, hfar b hb, (g1.out b hb).2⟩)
        (fun i b hb => by
          have := g1.blk i b hb
          obtain ⟨e', s, n, g, rfl⟩ := hrows i b hb
          exact this)
      rw [after_rows hrows]
      exact ⟨c, _, S1, rfl, j1, VR_shift r c g2, Ext.join hg g3.os g3.tape g3.output g3.size hkeep hnew j3
        (fun b hb => (g3.sub b hb).elim .inl (fun q => q.elim (fun ⟨j, hj⟩ => by rw [ownB_nil] at hj; cases hj) (fun q => .inr (.inr q)))) g3.sup hrows, j2⟩
    · split at h2
      · cases h2
      · rename_i hbare
        have hlS : ∀ b, lentS S κ h b → b < w.heap.size := fun b hb => hb.elim (fun hb => (hg.out b hb).1) fun ⟨i, hi⟩ => hg.lt hi
        have hlE : EnvG G (lentS S κ h) w := fun g => VR.mono (S' := lentS S κ h) (w' := w) (fun b hb => ⟨Or.inl hb, rfl⟩) (G g) noK noK _ (fun _ _ h => h) (hE g)
        obtain ⟨hrows, hcalls⟩ := hp vs' cs (lentS S κ h) w r hr hlS hlE (VRs_lends hg vs vs' cs hl hv) h1
        have key : shift h.length r = v ∧ hr = h' ∧ rowsBare hr = true := by
          split at h2
          · have := sem_leaf h2
            simp only [Prod.mk.injEq] at this
            rename_i hnil
            have hnil : hr = [] := hnil
            exact ⟨this.1.symm, by rw [this.2, hnil], by rw [hnil]; rfl⟩
          · rename_i b l hcons
            have hcons : hr = b :: l := hcons
            obtain ⟨hc, h3⟩ := sem_br_fail h2
            have := sem_leaf h3
            simp only [Prod.mk.injEq] at this
            exact ⟨this.1.symm, by rw [this.2, hcons], by rw [hcons]; exact hc⟩
        obtain ⟨rfl, rfl, hrb⟩ := key
        refine hcalls.mono ?_
        rintro e w' ⟨c, κ1, S1, rfl, g1, g2, g3⟩
        have hkeep : ∀ b, b < w.heap.size → w'.heap[b]? = w.heap[b]? := fun b hb => g3.keep b hb (fun i hi => by rw [ownB_nil] at hi; cases hi)
        have hnew : ∀ i b, ownB κ1 hr i = some b → w.heap.size ≤ b := fun i b hi => (g3.own i b hi).elim (fun ⟨j, hj⟩ => by rw [ownB_nil] at hj; cases hj) id
        obtain ⟨j1, j2, j3⟩ := Good.join (S2 := S) hg g1 hkeep hnew (fun _ h => h)
          (fun b hb => ⟨(g1.out b (g3.sup b (.inl hb))).1, (hg.out b hb).2, (g1.out b (g3.sup b (.inl hb))).2⟩)
          (fun i b hb => by
            have := g1.blk i b hb
            obtain ⟨e', s, n, g, rfl, hbs⟩ := rowsBare_spec hrb i b hb
            obtain ⟨q0, cc, xs, q1, q2, q3⟩ := this
            refine ⟨q0, cc, xs, q1, q2, fun i hi => ?_⟩
            obtain ⟨ci, p1, p2, p3, p4⟩ := q3 i hi
            exact ⟨ci, VR_bare _ _ _ (hbs i hi) p1, p2, p3, p4⟩)
        rw [after_rows hrows]
        exact ⟨c, _, S, rfl, j1, VR_shift r c (VR_bare r _ _ hbare g2), Ext.join hg g3.os g3.tape g3.output g3.size hkeep hnew j3 (fun b hb => .inl hb) (fun _ h => h) hrows, j2⟩

/-! ### A table of callees -/

theorem lookN_spec {α : Type} {f : Nat} {x : α} : ∀ {l : List (Nat × α)}, lookN f l = some x → (f, x) ∈ l
  | [], h => by cases h
  | (k, y) :: l, h => by
    simp only [lookN] at h
    split at h
    · rename_i hk
      have hk : k = f := Nat.eq_of_beq_eq_true hk
      simp only [Option.some.injEq] at h
      subst h
      subst hk
      exact List.mem_cons_self ..
    · exact List.mem_cons_of_mem _ (lookN_spec h)

/-- Every function of a table is known by what it answers. -/
def AllPure (P : Program) (G : Nat → V) (tbl : List (Nat × (List V → T (V × List Blk)))) : Prop := ∀ p, p ∈ tbl → PureX P G p.1 p.2

theorem AllPure.nil {P : Program} {G : Nat → V} : AllPure P G [] := fun _ h => by cases h

theorem AllPure.cons {P : Program} {G : Nat → V} {f : Nat} {F : List V → T (V × List Blk)} {tbl : List (Nat × (List V → T (V × List Blk)))} (h : PureC P G f F) (ht : AllPure P G tbl) : AllPure P G ((f, F) :: tbl) := fun p hp => by
  rcases List.mem_cons.1 hp with rfl | hp
  · exact h.x
  · exact ht p hp

theorem AllPure.consX {P : Program} {G : Nat → V} {f : Nat} {F : List V → T (V × List Blk)} {tbl : List (Nat × (List V → T (V × List Blk)))} (h : PureX P G f F) (ht : AllPure P G tbl) : AllPure P G ((f, F) :: tbl) := fun p hp => by
  rcases List.mem_cons.1 hp with rfl | hp
  · exact h
  · exact ht p hp

theorem callT_ok {P : Program} {Γ : Cx0} {tbl : List (Nat × (List V → T (V × List Blk)))} (hc : Γ.call = callT tbl) (ht : AllPure P Γ.glob tbl) : CallOK P Γ := by
  intro f vs cs κ S h w v h' hg hE hv he
  rw [hc] at he
  unfold callT at he
  split at he
  · rename_i F hF
    exact callF_ok (ht _ (lookN_spec hF)) hg hE hv he
  · cases he

/-! ### A row said otherwise -/

/-- A row by another way to say its elements. -/
theorem LE_row {Γ : Cx0} {st : St} {i e s n : Nat} {g g' : Nat → V} (hi : st.h[i]? = some (.row e s n g)) (hg : ∀ j, j < n → g' j = g j) : LE Γ st ⟨st.t, st.h.set i (.row e s n g')⟩ := by
  intro κ S a w hr
  have hlen : i < st.h.length := (List.getElem?_eq_some_iff.1 hi).1
  have hown : ∀ j, ownB κ (st.h.set i (.row e s n g')) j = ownB κ st.h j := by
    intro j
    by_cases hj : i = j
    · subst hj
      rw [ownB_of hi (by simp), ownB_of (b := .row e s n g') (by simp [hlen]) (by simp)]
    · unfold ownB
      rw [List.getElem?_set_ne hj]
  refine ⟨κ, S, ⟨⟨?_, ?_, ?_, ?_⟩, hr.env, hr.tmps, hr.defers⟩, ⟨rfl, rfl, rfl, Nat.le_refl _, fun _ _ _ => rfl, fun j b hb => .inl ⟨j, by rw [← hown]; exact hb⟩, fun _ hb => .inl hb, fun _ hb => hb,
    pre_of (Nat.le_refl _) (fun _ _ _ => rfl) (fun j b hb _ => ⟨j, by rw [← hown]; exact hb, fun e1 s1 n1 g1 hh => ⟨e1, s1, n1, g1, by
      show (st.h.set i (.row e s n g'))[j]? = _
      rw [List.getElem?_set_ne (fun hij => by subst hij; rw [hi] at hh; cases hh)]; exact hh, Nat.le_refl _⟩⟩) (fun _ _ _ _ _ _ _ _ => Kept.refl _ _ _),
    fun j e1 s1 n1 g1 hj => ⟨rfl, by
      have hj : (st.h.set i (.row e s n g'))[j]? = some (.xrow false e1 s1 n1 g1) := hj
      by_cases hij : i = j
      · subst hij
        rw [List.getElem?_set_self hlen] at hj
        simp at hj
      · rw [List.getElem?_set_ne hij] at hj
        exact ⟨g1, hj⟩⟩⟩⟩
  · intro j b hj
    by_cases hij : i = j
    · subst hij
      have hj : (st.h.set i (.row e s n g'))[i]? = some b := hj
      rw [List.getElem?_set_self hlen] at hj
      simp only [Option.some.injEq] at hj
      subst hj
      obtain ⟨q0, c, xs, q1, q2, q3⟩ := hr.good.blk i _ hi
      exact ⟨q0, c, xs, q1, q2, fun k hk => by rw [hg k hk]; exact q3 k hk⟩
    · have hj : (st.h.set i (.row e s n g'))[j]? = some b := hj
      rw [List.getElem?_set_ne hij] at hj
      exact hr.good.blk j b hj
  · intro j k b hjk
    have := hr.good.sep j k b hjk
    rw [← hown j, ← hown k] at this
    exact this
  · intro b hb
    exact ⟨(hr.good.out b hb).1, fun j hj => (hr.good.out b hb).2 j (by rw [← hown]; exact hj)⟩
  · intro j hj
    exact hr.good.dom j (by simpa using hj)

end Go.Sy

