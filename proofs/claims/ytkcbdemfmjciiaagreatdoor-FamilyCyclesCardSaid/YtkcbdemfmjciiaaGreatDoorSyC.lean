/-
  How the evaluator's own blocks are kept: a new block, a block written over, a row that grows. No conditions.
-/
import Derived.Test.YtkcbdemfmjciiaaGreatDoorSyB
import Derived.Laws.CopyRow
import Derived.Laws.Rows
namespace Go.Sy

section
variable {S S' : Nat → Prop} {w w' : World} {κ κ' : Nat → Option Value}

theorem ownsRow_congr {base : Nat} {e : TypeId} {size : Nat} {v : Value} {n : Nat} {xs : List Value} (h : w.ownsRow base e size v n xs)
    (hb : ∀ g, blockOf (some v) = some g → w'.heap[g]? = w.heap[g]?) : w'.ownsRow base e size v n xs := by
  refine ⟨h.1, ?_⟩
  rcases h.2 with h2 | ⟨g, cap, cur, hv, hbase, hg, rest⟩
  · exact .inl h2
  · refine .inr ⟨g, cap, cur, hv, hbase, ?_, rest⟩
    rw [hb g (by rw [hv]; rfl)]
    exact hg

theorem Holds.mono {v : Option Value} {b : Blk} (hS : ∀ b, S b → S' b ∧ w'.heap[b]? = w.heap[b]?) (hk : ∀ id c, κ id = some c → κ' id = some c)
    (hb : ∀ g, blockOf v = some g → w'.heap[g]? = w.heap[g]?) (h : Holds S w κ v b) : Holds S' w' κ' v b := by
  cases b with
  | cells cs =>
    obtain ⟨g, e, ca, hv, hg, hr⟩ := h
    exact ⟨g, e, ca, hv, by rw [hb g (by rw [hv]; rfl)]; exact hg, VR.mono_go hS _ _ _ _ hk hr⟩
  | row e s n g =>
    obtain ⟨h0, c, xs, hv, ho, he⟩ := h
    exact ⟨h0, c, xs, hv, ownsRow_congr ho (fun g hg => hb g (by rw [hv]; exact hg)), he.mono hS⟩
  | imap ty n get =>
    obtain ⟨k, o, hv, ho, hr⟩ := h
    exact ⟨k, o, hv, by rw [hb k (by rw [hv]; rfl)]; exact ho, hr⟩
  | xrow lk e s n g =>
    obtain ⟨h0, c, xs, hv, ho, he⟩ := h
    exact ⟨h0, c, xs, hv, ownsRow_congr ho (fun g hg => hb g (by rw [hv]; exact hg)), he.mono hS⟩
  | dead => trivial

/-- A live block lies in the heap. -/
theorem Holds.lt {v : Option Value} {b : Blk} {g : Nat} (h : Holds S w κ v b) (hb : b ≠ .dead) (hg : blockOf v = some g) : g < w.heap.size := by
  cases b with
  | cells cs =>
    obtain ⟨g', e, ca, hv, hh, _⟩ := h
    rw [hv] at hg
    simp [blockOf] at hg
    subst hg
    exact (Array.getElem?_eq_some_iff.1 hh).1
  | row e s n get =>
    obtain ⟨_, c, xs, hv, ho, _⟩ := h
    rw [hv] at hg
    rcases ho.2 with ⟨rfl, _⟩ | ⟨g', cap, cur, rfl, _, hh, _⟩
    · simp [blockOf] at hg
    · simp [blockOf] at hg
      subst hg
      exact (Array.getElem?_eq_some_iff.1 hh).1
  | imap ty n get =>
    obtain ⟨k, o, hv, ho, _⟩ := h
    rw [hv] at hg
    simp [blockOf] at hg
    subst hg
    exact (Array.getElem?_eq_some_iff.1 ho).1
  | xrow lk e s n get =>
    obtain ⟨_, c, xs, hv, ho, _⟩ := h
    rw [hv] at hg
    rcases ho.2 with ⟨rfl, _⟩ | ⟨g', cap, cur, rfl, _, hh, _⟩
    · simp [blockOf] at hg
    · simp [blockOf] at hg
      subst hg
      exact (Array.getElem?_eq_some_iff.1 hh).1
  | dead => exact absurd rfl hb

theorem ownB_some {h : List Blk} {i g : Nat} (e : ownB κ h i = some g) : ∃ b, h[i]? = some b ∧ b ≠ .dead ∧ blockOf (κ i) = some g := by
  unfold ownB at e
  split at e
  · rename_i cs hh; exact ⟨_, hh, by simp, e⟩
  · rename_i hh; exact ⟨_, hh, by simp, e⟩
  · rename_i hh; exact ⟨_, hh, by simp, e⟩
  · rename_i hh; exact ⟨_, hh, by simp, e⟩
  · cases e

theorem ownB_of {h : List Blk} {i : Nat} {b : Blk} (e : h[i]? = some b) (hb : b ≠ .dead) : ownB κ h i = blockOf (κ i) := by
  unfold ownB
  rw [e]
  cases b <;> simp_all

theorem Good.lt {h : List Blk} (g : Good κ S h w) {i b : Nat} (e : ownB κ h i = some b) : b < w.heap.size := by
  obtain ⟨bl, h1, h2, h3⟩ := ownB_some e
  exact (g.blk i bl h1).lt h2 h3

/-- κ with one name more. -/
def addK (κ : Nat → Option Value) (n : Nat) (c : Value) : Nat → Option Value := fun i => if i = n then some c else κ i

theorem Good.addK_sub {h : List Blk} (g : Good κ S h w) (c : Value) : ∀ id u, κ id = some u → addK κ h.length c id = some u := by
  intro id u hu
  unfold addK
  split
  · rename_i e
    rw [e, g.dom _ (Nat.le_refl _)] at hu
    cases hu
  · exact hu

/-- A new block. -/
theorem Good.push {h : List Blk} (g : Good κ S h w) (b : Blk) (c : Value) (hw : ∀ k, k < w.heap.size → w'.heap[k]? = w.heap[k]?) (hsz : w.heap.size ≤ w'.heap.size)
    (hB : Holds S w' (addK κ h.length c) (some c) b) (hc : blockOf (some c) = none ∨ blockOf (some c) = some w.heap.size) : Good (addK κ h.length c) S (h ++ [b]) w' := by
  have hS : ∀ b, S b → S b ∧ w'.heap[b]? = w.heap[b]? := fun b hb => ⟨hb, hw b (g.out b hb).1⟩
  have hk := g.addK_sub c
  have hlt : ∀ i, i < h.length → addK κ h.length c i = κ i := fun i hi => by unfold addK; rw [if_neg (by omega)]
  have own_old : ∀ i, i < h.length → ownB (addK κ h.length c) (h ++ [b]) i = ownB κ h i := fun i hi => by
    unfold ownB
    rw [List.getElem?_append_left hi, hlt i hi]
  have own_new : ownB (addK κ h.length c) (h ++ [b]) h.length = none ∨ ownB (addK κ h.length c) (h ++ [b]) h.length = some w.heap.size := by
    unfold ownB
    have : addK κ h.length c h.length = some c := by simp [addK]
    rw [List.getElem?_append_right (Nat.le_refl _), Nat.sub_self, this]
    cases b <;> simp <;> exact hc
  have own_none : ∀ i, h.length < i → ownB (addK κ h.length c) (h ++ [b]) i = none := fun i hi => by
    unfold ownB
    rw [List.getElem?_eq_none (by simp; omega)]
  refine ⟨?_, ?_, ?_, ?_⟩
  · intro i bl hi
    rcases Nat.lt_trichotomy i h.length with hl | rfl | hl
    · rw [List.getElem?_append_left hl] at hi
      rw [hlt i hl]
      by_cases hd : bl = .dead
      · subst hd; trivial
      · refine (g.blk i bl hi).mono hS hk fun k hk' => hw k ((g.blk i bl hi).lt hd hk')
    · rw [List.getElem?_append_right (Nat.le_refl _)] at hi
      simp at hi
      subst hi
      simpa [addK] using hB
    · rw [List.getElem?_eq_none (by simp; omega)] at hi
      cases hi
  · intro i j k hij hi hj
    rcases Nat.lt_trichotomy i h.length with hl | rfl | hl
    · rw [own_old i hl] at hi
      rcases Nat.lt_trichotomy j h.length with hl' | rfl | hl'
      · rw [own_old j hl'] at hj
        exact g.sep i j k hij hi hj
      · rcases own_new with e | e
        · rw [e] at hj; cases hj
        · rw [e] at hj; simp at hj
          have := g.lt hi
          omega
      · rw [own_none j hl'] at hj; cases hj
    · rcases own_new with e | e
      · rw [e] at hi; cases hi
      · rw [e] at hi; simp at hi
        rcases Nat.lt_trichotomy j h.length with hl' | rfl | hl'
        · rw [own_old j hl'] at hj
          have := g.lt hj
          omega
        · exact hij rfl
        · rw [own_none j hl'] at hj; cases hj
    · rw [own_none i hl] at hi; cases hi
  · intro k hk'
    refine ⟨Nat.lt_of_lt_of_le (g.out k hk').1 hsz, fun i hi => ?_⟩
    rcases Nat.lt_trichotomy i h.length with hl | rfl | hl
    · rw [own_old i hl] at hi
      exact (g.out k hk').2 i hi
    · rcases own_new with e | e
      · rw [e] at hi; cases hi
      · rw [e] at hi; simp at hi
        have := (g.out k hk').1
        omega
    · rw [own_none i hl] at hi; cases hi
  · intro i hi
    simp at hi
    unfold addK
    rw [if_neg (by omega)]
    exact g.dom i (by omega)

theorem Ext.push {h : List Blk} (b : Blk) (c : Value) (hw : ∀ k, k < w.heap.size → w'.heap[k]? = w.heap[k]?) (hsz : w.heap.size ≤ w'.heap.size)
    (hos : w'.os = w.os) (htape : w'.tape = w.tape) (hout : w'.output = w.output)
    (hc : blockOf (some c) = none ∨ blockOf (some c) = some w.heap.size) (hnx : ∀ e s n g, b ≠ .xrow false e s n g) : Ext κ S h w (addK κ h.length c) S (h ++ [b]) w' := by
  refine ⟨hos, htape, hout, hsz, fun k hk _ => hw k hk, ?_, fun k hk => .inl hk, fun k hk => hk, pre_of hsz (fun k hk _ => hw k hk) ?_ (fun i e s n g k hi hk => ?_), fun i e s n g hi => ?_⟩
  rotate_left
  · intro i k hi hlt
    obtain ⟨bl, h1, h2, h3⟩ := ownB_some hi
    rcases Nat.lt_trichotomy i h.length with hl | rfl | hl
    · rw [List.getElem?_append_left hl] at h1
      refine ⟨i, ?_, fun e s n g hh => ⟨e, s, n, g, by rw [List.getElem?_append_left hl]; exact hh, Nat.le_refl _⟩⟩
      rw [ownB_of h1 h2, ← h3]
      unfold addK
      rw [if_neg (by omega)]
    · have : addK κ h.length c h.length = some c := by simp [addK]
      rw [this] at h3
      rcases hc with e | e
      · rw [e] at h3; cases h3
      · rw [e] at h3; simp at h3; omega
    · rw [List.getElem?_eq_none (by simp; omega)] at h1
      cases h1
  · rcases Nat.lt_or_ge k w.heap.size with hl | hl
    · exact Kept.same (hw k hl)
    · intro ca e z hca
      rw [Array.getElem?_eq_none hl] at hca
      cases hca
  · rcases Nat.lt_trichotomy i h.length with hl | rfl | hl
    · rw [List.getElem?_append_left hl] at hi
      exact ⟨by unfold addK; rw [if_neg (by omega)], g, hi⟩
    · rw [List.getElem?_append_right (Nat.le_refl _)] at hi
      simp at hi
      exact absurd hi (hnx _ _ _ _)
    · rw [List.getElem?_eq_none (by simp; omega)] at hi
      cases hi
  intro i k hi
  obtain ⟨bl, h1, h2, h3⟩ := ownB_some hi
  rcases Nat.lt_trichotomy i h.length with hl | rfl | hl
  · refine .inl ⟨i, ?_⟩
    rw [List.getElem?_append_left hl] at h1
    rw [ownB_of h1 h2, ← h3]
    unfold addK
    rw [if_neg (by omega)]
  · have : addK κ h.length c h.length = some c := by simp [addK]
    rw [this] at h3
    rcases hc with e | e
    · rw [e] at h3; cases h3
    · rw [e] at h3; simp at h3; exact .inr (by omega)
  · rw [List.getElem?_eq_none (by simp; omega)] at h1
    cases h1

/-- A block of the call's own written over: everything else as it was. -/
theorem Good.upd {h : List Blk} (g : Good κ S h w) {id blk : Nat} {b b' : Blk} (hb : h[id]? = some b) (hd : b ≠ .dead) (hd' : b' ≠ .dead) (hid : blockOf (κ id) = some blk)
    (hw : ∀ k, k ≠ blk → w'.heap[k]? = w.heap[k]?) (hsz : w'.heap.size = w.heap.size) (hB : Holds S w' κ (κ id) b') :
    Good κ S (h.set id b') w' ∧ (∀ i, ownB κ (h.set id b') i = ownB κ h i) := by
  have hlen : id < h.length := by
    rcases Nat.lt_or_ge id h.length with hl | hl
    · exact hl
    · rw [List.getElem?_eq_none hl] at hb; cases hb
  have hown : ∀ i, ownB κ (h.set id b') i = ownB κ h i := fun i => by
    by_cases e : id = i
    · subst e
      rw [ownB_of hb hd, ownB_of (b := b') (by simp [hlen]) hd']
    · unfold ownB
      rw [List.getElem?_set_ne e]
  have hidb : ownB κ h id = some blk := by rw [ownB_of hb hd]; exact hid
  have hS : ∀ b, S b → S b ∧ w'.heap[b]? = w.heap[b]? := fun k hk => ⟨hk, hw k (fun e => (g.out k hk).2 id (by rw [e]; exact hidb))⟩
  refine ⟨⟨?_, ?_, ?_, ?_⟩, hown⟩
  · intro i bl hi
    by_cases e : id = i
    · subst e
      rw [List.getElem?_set_self hlen] at hi
      simp at hi; subst hi
      exact hB
    · rw [List.getElem?_set_ne e] at hi
      by_cases hdd : bl = .dead
      · subst hdd; trivial
      refine (g.blk i bl hi).mono hS (fun _ _ h => h) fun k hk => hw k fun ek => ?_
      subst ek
      exact g.sep id i k e hidb (by rw [ownB_of hi hdd]; exact hk)
  · intro i j k hij hi
    rw [hown] at hi ⊢
    exact g.sep i j k hij hi
  · intro k hk
    refine ⟨by rw [hsz]; exact (g.out k hk).1, fun i => ?_⟩
    rw [hown]
    exact (g.out k hk).2 i
  · intro i hi
    simp at hi
    exact g.dom i hi

theorem Ext.upd {h h' : List Blk} (gd : Good κ S h w) {id blk : Nat} (hid : ownB κ h id = some blk)
    (hw : ∀ k, k ≠ blk → w'.heap[k]? = w.heap[k]?) (hsz : w'.heap.size = w.heap.size) (hos : w'.os = w.os) (htape : w'.tape = w.tape) (hout : w'.output = w.output)
    (hown : ∀ i, ownB κ h' i = ownB κ h i) (hset : ∀ i, i ≠ id → h'[i]? = h[i]?) (hnx : ∀ e s n g, h[id]? ≠ some (.xrow true e s n g))
    (hfx : ∀ e s n g, h'[id]? = some (.xrow false e s n g) → ∃ g0, h[id]? = some (.xrow false e s n g0)) : Ext κ S h w κ S h' w' :=
  ⟨hos, htape, hout, by omega, fun k _ hn => hw k (fun e => hn id (by rw [e]; exact hid)), fun i k hi => .inl ⟨i, by rw [← hown]; exact hi⟩, fun _ hk => .inl hk, fun _ hk => hk,
    pre_of (by omega) (fun k _ hn => hw k (fun e => hn id (by rw [e]; exact hid)))
      (fun i k hi _ => ⟨i, by rw [← hown]; exact hi, fun e s n g hh => ⟨e, s, n, g, by
        rw [hset i (fun e' => hnx e s n g (by rw [← e']; exact hh))]; exact hh, Nat.le_refl _⟩⟩)
      (fun i e s n g k hi hk => Kept.same (hw k (fun e' => by
        subst e'
        by_cases hii : i = id
        · exact hnx e s n g (by rw [← hii]; exact hi)
        · exact gd.sep i id k hii hk hid))),
    fun i e s n g hi => ⟨rfl, by
      by_cases hii : i = id
      · subst hii; exact hfx e s n g hi
      · exact ⟨g, by rw [← hset i hii]; exact hi⟩⟩⟩

/-! ### A row that grows: all other names of its slice are forgotten -/

/-- κ with one name turned. -/
def setK (κ : Nat → Option Value) (n : Nat) (c : Value) : Nat → Option Value := fun i => if i = n then some c else κ i

mutual
theorem VR_kill {id : Nat} {c' : Value} (hS : ∀ b, S b → S' b ∧ w'.heap[b]? = w.heap[b]?) (hid : ∃ a n cap, κ id = some (.slice a n cap)) : ∀ (v : V) (c : Value),
    VR S w v κ c → VR S' w' (kill id v) (setK κ id c') c
  | .val _, _, h => h
  | .str _, _, h => h
  | .agg cs, _, h => by
    obtain ⟨ca, e, h⟩ := h
    exact ⟨ca, e, VRs_kills hS hid cs _ h⟩
  | .tup cs, _, h => by
    obtain ⟨ca, e, h⟩ := h
    exact ⟨ca, e, VRs_kills hS hid cs _ h⟩
  | .fn f cs, _, h => by
    obtain ⟨ca, e, h⟩ := h
    exact ⟨ca, e, VRs_kills hS hid cs _ h⟩
  | .nilS, _, h => h
  | .sl s n g, _, h => VR.mono hS (.sl s n g) noK _ _ (fun _ _ h => by cases h) h
  | .slr s n m g, _, h => VR.mono hS (.slr s n m g) noK _ _ (fun _ _ h => by cases h) h
  | .pp v, _, h => VR.mono hS (.pp v) noK _ _ (fun _ _ h => by cases h) h
  | .ptr k off, _, h => by
    obtain ⟨g, h1, h2⟩ := h
    refine ⟨g, ?_, h2⟩
    unfold setK
    split
    · rename_i e
      obtain ⟨a, n, cap, hk⟩ := hid
      rw [e, hk] at h1
      cases h1
    · exact h1
  | .ref k, _, h => by
    simp only [kill]
    split
    · trivial
    · rename_i e
      refine ⟨?_, h.2⟩
      unfold setK
      rw [if_neg (Nat.ne_of_beq_eq_false e)]
      exact h.1
  | .ept k s i off, _, h => by
    simp only [kill]
    split
    · trivial
    · rename_i e
      obtain ⟨g, n, cap, h1, h2⟩ := h
      refine ⟨g, n, cap, ?_, h2⟩
      unfold setK
      rw [if_neg (Nat.ne_of_beq_eq_false e)]
      exact h1
  | .und, _, _ => trivial
theorem VRs_kills {id : Nat} {c' : Value} (hS : ∀ b, S b → S' b ∧ w'.heap[b]? = w.heap[b]?) (hid : ∃ a n cap, κ id = some (.slice a n cap)) : ∀ (vs : List V) (l : List Value),
    VRs S w vs κ l → VRs S' w' (kill.kills id vs) (setK κ id c') l
  | [], _, h => h
  | v :: vs, _, h => by
    obtain ⟨a, l', e, h1, h2⟩ := h
    exact ⟨a, l', e, VR_kill hS hid v _ h1, VRs_kills hS hid vs _ h2⟩
end

theorem killBs_get (id : Nat) : ∀ (h : List Blk) (i : Nat), (killBs id h)[i]? = (h[i]?).map (killB id)
  | [], _ => by simp [killBs]
  | b :: h, 0 => by simp [killBs]
  | b :: h, i + 1 => by simpa [killBs] using killBs_get id h i

theorem killBs_length (id : Nat) : ∀ (h : List Blk), (killBs id h).length = h.length
  | [] => rfl
  | b :: h => by simp [killBs, killBs_length id h]

theorem killB_dead {id : Nat} {b : Blk} : killB id b = .dead ↔ b = .dead := by cases b <;> simp [killB]

theorem Good.freeze {h : List Blk} (g : Good κ S h w) {id : Nat} {e : TypeId} {s n : Nat} {gx : Nat → V} {c0 : Value} (hb : h[id]? = some (.row e s n gx)) (hc : κ id = some c0) :
    Good (setK κ id c0) (fun b => S b ∨ ownB κ h id = some b) ((killBs id h).set id .dead) w ∧
    (∀ (vs : List V) (l : List Value), VRs S w vs κ l → VRs (fun b => S b ∨ ownB κ h id = some b) w (kill.kills id vs) (setK κ id c0) l) ∧
    (∀ i k, ownB (setK κ id c0) ((killBs id h).set id .dead) i = some k → ∃ j, ownB κ h j = some k) := by
  have hlen : id < h.length := by
    rcases Nat.lt_or_ge id h.length with hl | hl
    · exact hl
    · rw [List.getElem?_eq_none hl] at hb; cases hb
  obtain ⟨_, c1, xs0, hκ, hown0, _⟩ := g.blk id _ hb
  have hid : ∃ a n cap, κ id = some (.slice a n cap) := by
    rcases hown0.2 with ⟨rfl, _⟩ | ⟨g', cap, cur, rfl, _⟩
    · exact ⟨_, _, _, hκ⟩
    · exact ⟨_, _, _, hκ⟩
  have hset : ∀ i, setK κ id c0 i = κ i := fun i => by
    unfold setK
    split
    · rename_i hi
      rw [hi, hc]
    · rfl
  have hS : ∀ b, S b → (S b ∨ ownB κ h id = some b) ∧ w.heap[b]? = w.heap[b]? := fun _ hb => ⟨.inl hb, rfl⟩
  have own_id : ownB (setK κ id c0) ((killBs id h).set id .dead) id = none := by
    unfold ownB
    rw [List.getElem?_set_self (by simpa [killBs_length] using hlen)]
  have own_ne : ∀ i, i ≠ id → ownB (setK κ id c0) ((killBs id h).set id .dead) i = ownB κ h i := fun i hi => by
    unfold ownB
    rw [List.getElem?_set_ne (Ne.symm hi), killBs_get, hset i]
    cases hh : h[i]? with
    | none => rfl
    | some b => cases b <;> rfl
  have own : ∀ i k, ownB (setK κ id c0) ((killBs id h).set id .dead) i = some k → i ≠ id ∧ ownB κ h i = some k := fun i k hi => by
    by_cases ei : i = id
    · subst ei
      rw [own_id] at hi; cases hi
    · rw [own_ne i ei] at hi
      exact ⟨ei, hi⟩
  refine ⟨⟨?_, ?_, ?_, ?_⟩, fun vs l hv => VRs_kills hS hid vs l hv, fun i k hi => ⟨i, (own i k hi).2⟩⟩
  · intro i bl hi
    by_cases ei : i = id
    · subst ei
      rw [List.getElem?_set_self (by simpa [killBs_length] using hlen)] at hi
      simp at hi; subst hi
      trivial
    · rw [List.getElem?_set_ne (Ne.symm ei), killBs_get] at hi
      rw [hset i]
      cases hh : h[i]? with
      | none => rw [hh] at hi; cases hi
      | some b =>
        rw [hh] at hi
        simp at hi
        subst hi
        have hold := g.blk i b hh
        cases b with
        | cells cs =>
          obtain ⟨g', e', ca, hv, hg, hr⟩ := hold
          exact ⟨g', e', ca, hv, hg, VRs_kills hS hid _ _ hr⟩
        | row e' s' n' g' =>
          obtain ⟨h0, c, xs, hv, ho, he⟩ := hold
          exact ⟨h0, c, xs, hv, ho, he.mono hS⟩
        | imap ty n get =>
          obtain ⟨k, o, hv, ho, hr⟩ := hold
          exact ⟨k, o, hv, ho, hr⟩
        | xrow lk e' s' n' g' =>
          obtain ⟨h0, c, xs, hv, ho, he⟩ := hold
          exact ⟨h0, c, xs, hv, ho, he.mono hS⟩
        | dead => trivial
  · intro i j k hij hi hj
    exact g.sep i j k hij (own i k hi).2 (own j k hj).2
  · intro k hk
    rcases hk with hk | hk
    · exact ⟨(g.out k hk).1, fun i hi => (g.out k hk).2 i (own i k hi).2⟩
    · exact ⟨g.lt hk, fun i hi => g.sep i id k (own i k hi).1 (own i k hi).2 hk⟩
  · intro i hi
    rw [hset i]
    refine g.dom i ?_
    simpa [killBs_length] using hi

theorem killBs_xrow {id i : Nat} {h : List Blk} {lk : Bool} {e : TypeId} {s n : Nat} {g : Nat → V} : (killBs id h)[i]? = some (.xrow lk e s n g) ↔ h[i]? = some (.xrow lk e s n g) := by
  rw [killBs_get]
  cases h[i]? with
  | none => simp
  | some b => cases b <;> simp [killB]

/-- A row, whoever may write it. -/
def IsRow (b : Blk) (e : TypeId) (s n : Nat) (g : Nat → V) : Prop := b = .row e s n g ∨ ∃ lk, b = .xrow lk e s n g

theorem IsRow.holds {b : Blk} {e : TypeId} {s n : Nat} {g : Nat → V} {v : Option Value} (hb : IsRow b e s n g) (h : Holds S w κ v b) :
    0 < s ∧ ∃ c xs, v = some c ∧ w.ownsRow 0 e s c n xs ∧ Elems S w s n g xs := by
  rcases hb with rfl | ⟨lk, rfl⟩ <;> exact h

theorem IsRow.live {b : Blk} {e : TypeId} {s n : Nat} {g : Nat → V} (hb : IsRow b e s n g) : b ≠ .dead := by
  rcases hb with rfl | ⟨lk, rfl⟩ <;> simp

theorem Good.app {h : List Blk} (g : Good κ S h w) {id : Nat} {b0 : Blk} {e : TypeId} {s n : Nat} {gx : Nat → V} {b' : Blk} {c' : Value} (hb : h[id]? = some b0) (hrow : IsRow b0 e s n gx) (hd' : b' ≠ .dead)
    (hw : ∀ k, k < w.heap.size → blockOf (κ id) ≠ some k → w'.heap[k]? = w.heap[k]?) (hsz : w.heap.size ≤ w'.heap.size)
    (hc : blockOf (some c') = blockOf (κ id) ∨ blockOf (some c') = some w.heap.size)
    (hB : Holds S w' (setK κ id c') (some c') b') :
    Good (setK κ id c') S ((killBs id h).set id b') w' ∧
    (∀ (vs : List V) (l : List Value), VRs S w vs κ l → VRs S w' (kill.kills id vs) (setK κ id c') l) ∧
    (∀ i k, ownB (setK κ id c') ((killBs id h).set id b') i = some k → (∃ j, ownB κ h j = some k) ∨ w.heap.size ≤ k) := by
  have hlen : id < h.length := by
    rcases Nat.lt_or_ge id h.length with hl | hl
    · exact hl
    · rw [List.getElem?_eq_none hl] at hb; cases hb
  obtain ⟨_, c0, xs0, hκ, hown0, _⟩ := hrow.holds (g.blk id _ hb)
  have hid : ∃ a n cap, κ id = some (.slice a n cap) := by
    rcases hown0.2 with ⟨rfl, _⟩ | ⟨g', cap, cur, rfl, _⟩
    · exact ⟨_, _, _, hκ⟩
    · exact ⟨_, _, _, hκ⟩
  have hidb : ownB κ h id = blockOf (κ id) := ownB_of hb hrow.live
  have hS : ∀ b, S b → S b ∧ w'.heap[b]? = w.heap[b]? := fun k hk => ⟨hk, hw k (g.out k hk).1 (fun e => (g.out k hk).2 id (by rw [hidb]; exact e))⟩
  have own_id : ownB (setK κ id c') ((killBs id h).set id b') id = blockOf (some c') := by
    rw [ownB_of (b := b') (by simp [killBs_length, hlen]) hd']
    simp [setK]
  have own_ne : ∀ i, i ≠ id → ownB (setK κ id c') ((killBs id h).set id b') i = ownB κ h i := fun i hi => by
    unfold ownB
    rw [List.getElem?_set_ne (Ne.symm hi), killBs_get]
    have : setK κ id c' i = κ i := by unfold setK; rw [if_neg hi]
    rw [this]
    cases hh : h[i]? with
    | none => rfl
    | some b => cases b <;> rfl
  refine ⟨⟨?_, ?_, ?_, ?_⟩, fun vs l hv => VRs_kills hS hid vs l hv, ?_⟩
  · intro i bl hi
    by_cases ei : i = id
    · subst ei
      rw [List.getElem?_set_self (by simpa [killBs_length] using hlen)] at hi
      simp at hi; subst hi
      simpa [setK] using hB
    · rw [List.getElem?_set_ne (Ne.symm ei), killBs_get] at hi
      have hki : setK κ id c' i = κ i := by unfold setK; rw [if_neg ei]
      rw [hki]
      cases hh : h[i]? with
      | none => rw [hh] at hi; cases hi
      | some b =>
        rw [hh] at hi
        simp at hi
        subst hi
        have hold := g.blk i b hh
        have hfar : ∀ k, b ≠ .dead → blockOf (κ i) = some k → w'.heap[k]? = w.heap[k]? := fun k hd hk =>
          hw k (hold.lt hd hk) fun e => g.sep i id k ei (by rw [ownB_of hh hd]; exact hk) (by rw [hidb]; exact e)
        cases b with
        | cells cs =>
          obtain ⟨g', e', ca, hv, hg, hr⟩ := hold
          exact ⟨g', e', ca, hv, by rw [hfar g' (by simp) (by rw [hv]; rfl)]; exact hg, VRs_kills hS hid _ _ hr⟩
        | row e' s' n' g' =>
          obtain ⟨h0, c, xs, hv, ho, he⟩ := hold
          exact ⟨h0, c, xs, hv, ownsRow_congr ho (fun k hk => hfar k (by simp) (by rw [hv]; exact hk)), he.mono hS⟩
        | imap ty n get =>
          obtain ⟨k, o, hv, ho, hr⟩ := hold
          exact ⟨k, o, hv, by rw [hfar k (by simp) (by rw [hv]; rfl)]; exact ho, hr⟩
        | xrow lk e' s' n' g' =>
          obtain ⟨h0, c, xs, hv, ho, he⟩ := hold
          exact ⟨h0, c, xs, hv, ownsRow_congr ho (fun k hk => hfar k (by simp) (by rw [hv]; exact hk)), he.mono hS⟩
        | dead => trivial
  · intro i j k hij hi hj
    by_cases ei : i = id
    · subst ei
      rw [own_id] at hi
      rw [own_ne j (Ne.symm hij)] at hj
      rcases hc with e | e
      · rw [e] at hi
        exact g.sep i j k hij (by rw [hidb]; exact hi) hj
      · rw [e] at hi; simp at hi
        have := g.lt hj
        omega
    · rw [own_ne i ei] at hi
      by_cases ej : j = id
      · subst ej
        rw [own_id] at hj
        rcases hc with e | e
        · rw [e] at hj
          exact g.sep i j k hij hi (by rw [hidb]; exact hj)
        · rw [e] at hj; simp at hj
          have := g.lt hi
          omega
      · rw [own_ne j ej] at hj
        exact g.sep i j k hij hi hj
  · intro k hk
    refine ⟨Nat.lt_of_lt_of_le (g.out k hk).1 hsz, fun i hi => ?_⟩
    by_cases ei : i = id
    · subst ei
      rw [own_id] at hi
      rcases hc with e | e
      · rw [e] at hi
        exact (g.out k hk).2 i (by rw [hidb]; exact hi)
      · rw [e] at hi; simp at hi
        have := (g.out k hk).1
        omega
    · rw [own_ne i ei] at hi
      exact (g.out k hk).2 i hi
  · intro i hi
    simp [killBs_length] at hi
    unfold setK
    rw [if_neg (by omega)]
    exact g.dom i hi
  · intro i k hi
    by_cases ei : i = id
    · subst ei
      rw [own_id] at hi
      rcases hc with e | e
      · rw [e] at hi
        exact .inl ⟨i, by rw [hidb]; exact hi⟩
      · rw [e] at hi; simp at hi
        exact .inr (by omega)
    · rw [own_ne i ei] at hi
      exact .inl ⟨i, hi⟩

/-- What an append leaves: 'pre' and 'fix'. -/
theorem Ext.app {h : List Blk} (g : Good κ S h w) {id : Nat} {b0 : Blk} {e : TypeId} {s n : Nat} {gx : Nat → V} {b' : Blk} {c' : Value} (hb : h[id]? = some b0) (hrow : IsRow b0 e s n gx)
    (hos : w'.os = w.os) (htape : w'.tape = w.tape) (hout : w'.output = w.output)
    (hw : ∀ k, k < w.heap.size → blockOf (κ id) ≠ some k → w'.heap[k]? = w.heap[k]?) (hsz : w.heap.size ≤ w'.heap.size)
    (hc : blockOf (some c') = blockOf (κ id) ∨ blockOf (some c') = some w.heap.size)
    (hbx : ∀ e s n g, b' ≠ .xrow false e s n g) (hbt : ∀ e s n g, b0 = .xrow true e s n g → (∃ n' g', b' = .xrow true e s n' g' ∧ n ≤ n') ∧ ∀ k, blockOf (κ id) = some k → Kept w w' k (n * s))
    (own : ∀ i k, ownB (setK κ id c') ((killBs id h).set id b') i = some k → (∃ j, ownB κ h j = some k) ∨ w.heap.size ≤ k) :
    Ext κ S h w (setK κ id c') S ((killBs id h).set id b') w' := by
  have hlen : id < h.length := by
    rcases Nat.lt_or_ge id h.length with hl | hl
    · exact hl
    · rw [List.getElem?_eq_none hl] at hb; cases hb
  have hidb : ownB κ h id = blockOf (κ id) := ownB_of hb hrow.live
  have keep : ∀ k, k < w.heap.size → (∀ i, ownB κ h i ≠ some k) → w'.heap[k]? = w.heap[k]? := fun k hk1 hk2 => hw k hk1 (fun e => hk2 id (by rw [hidb]; exact e))
  have get_ne : ∀ i, i ≠ id → ((killBs id h).set id b')[i]? = (killBs id h)[i]? := fun i hi => List.getElem?_set_ne (Ne.symm hi)
  refine ⟨hos, htape, hout, hsz, keep, own, fun _ hk => .inl hk, fun _ hk => hk, pre_of hsz keep ?_ ?_, ?_⟩
  · intro i k hi hlt
    by_cases hii : i = id
    · subst hii
      obtain ⟨bl, h1, h2, h3⟩ := ownB_some hi
      have h3 : blockOf (some c') = some k := by simpa [setK] using h3
      rcases hc with q | q
      · refine ⟨i, by rw [hidb, ← q]; exact h3, fun e1 s1 n1 g1 hh => ?_⟩
        rw [hb] at hh
        simp only [Option.some.injEq] at hh
        obtain ⟨⟨n', g', rfl, hn⟩, _⟩ := hbt _ _ _ _ hh
        exact ⟨e1, s1, n', g', by simp [killBs_length, hlen], Nat.mul_le_mul_right _ hn⟩
      · rw [q] at h3; simp at h3; omega
    · refine ⟨i, ?_, fun e1 s1 n1 g1 hh => ⟨e1, s1, n1, g1, by rw [get_ne i hii]; exact killBs_xrow.2 hh, Nat.le_refl _⟩⟩
      rw [← hi]
      unfold ownB
      rw [get_ne i hii, killBs_get]
      have : setK κ id c' i = κ i := by unfold setK; rw [if_neg hii]
      rw [this]
      cases hh : h[i]? with
      | none => rfl
      | some b => cases b <;> rfl
  · intro i e1 s1 n1 g1 k hi hk
    by_cases hii : i = id
    · subst hii
      rw [hb] at hi
      simp only [Option.some.injEq] at hi
      exact (hbt _ _ _ _ hi).2 k (by rw [← hidb]; exact hk)
    · exact Kept.same (hw k (g.lt hk) fun e' => g.sep i id k hii hk (by rw [hidb]; exact e'))
  · intro i e1 s1 n1 g1 hi
    by_cases hii : i = id
    · subst hii
      rw [List.getElem?_set_self (by simpa [killBs_length] using hlen)] at hi
      simp only [Option.some.injEq] at hi
      exact absurd hi (hbx _ _ _ _)
    · rw [get_ne i hii] at hi
      exact ⟨by unfold setK; rw [if_neg hii], g1, killBs_xrow.1 hi⟩

/-- What is left where a row is handed on. -/
theorem Ext.freeze {h : List Blk} (g : Good κ S h w) {id : Nat} {e : TypeId} {s n : Nat} {gx : Nat → V} {c0 : Value} (hb : h[id]? = some (.row e s n gx)) (hc : κ id = some c0)
    (own : ∀ i k, ownB (setK κ id c0) ((killBs id h).set id .dead) i = some k → ∃ j, ownB κ h j = some k) :
    Ext κ S h w (setK κ id c0) (fun b => S b ∨ ownB κ h id = some b) ((killBs id h).set id .dead) w := by
  have hlen : id < h.length := by
    rcases Nat.lt_or_ge id h.length with hl | hl
    · exact hl
    · rw [List.getElem?_eq_none hl] at hb; cases hb
  have hset : ∀ i, setK κ id c0 i = κ i := fun i => by
    unfold setK
    split
    · rename_i hi
      rw [hi, hc]
    · rfl
  have get_ne : ∀ i, i ≠ id → ((killBs id h).set id .dead)[i]? = (killBs id h)[i]? := fun i hi => List.getElem?_set_ne (Ne.symm hi)
  have own_id : ownB (setK κ id c0) ((killBs id h).set id .dead) id = none := by
    unfold ownB
    rw [List.getElem?_set_self (by simpa [killBs_length] using hlen)]
  refine ⟨rfl, rfl, rfl, Nat.le_refl _, fun _ _ _ => rfl, fun i k hi => .inl (own i k hi), fun k hk => hk.elim .inl (fun hk => .inr (.inl ⟨id, hk⟩)), fun _ hk => .inl hk,
    pre_of (Nat.le_refl _) (fun _ _ _ => rfl) ?_ (fun _ _ _ _ _ _ _ _ => Kept.refl _ _ _), ?_⟩
  · intro i k hi _
    have hii : i ≠ id := fun e' => by subst e'; rw [own_id] at hi; cases hi
    refine ⟨i, ?_, fun e1 s1 n1 g1 hh => ⟨e1, s1, n1, g1, by rw [get_ne i hii]; exact killBs_xrow.2 hh, Nat.le_refl _⟩⟩
    rw [← hi]
    unfold ownB
    rw [get_ne i hii, killBs_get, hset i]
    cases hh : h[i]? with
    | none => rfl
    | some b => cases b <;> rfl
  · intro i e1 s1 n1 g1 hi
    by_cases hii : i = id
    · subst hii
      rw [List.getElem?_set_self (by simpa [killBs_length] using hlen)] at hi
      simp at hi
    · rw [get_ne i hii] at hi
      exact ⟨hset i, g1, killBs_xrow.1 hi⟩

end
end Go.Sy

