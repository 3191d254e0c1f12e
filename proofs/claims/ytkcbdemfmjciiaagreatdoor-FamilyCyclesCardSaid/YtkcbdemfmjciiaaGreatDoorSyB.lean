/-
  What the evaluator's symbolic values, blocks and states mean in a world of the model, and how that is kept when the world grows. No conditions.
-/
import Derived.Test.YtkcbdemfmjciiaaGreatDoorSyA
import Derived.Test.YtkcbdemfmjciiaaGreatDoorSyPg
import Derived.Maps.Own
import Derived.Laws.AppendOwn
import Derived.Below
namespace Go.Sy

theorem leafIf_true (u v : V) : leafIf true u v = u := by
  unfold leafIf
  split
  · split <;> rfl
  all_goals rfl

theorem ikEq_eqB : ∀ {k k' : IntKind}, ikEq k k' = true → k = k' := by
  intro k k' h
  cases k <;> cases k' <;> first | rfl | cases h

theorem leafIf_false (u v : V) : leafIf false u v = v := by
  unfold leafIf
  split
  · split
    · rename_i h
      rw [ikEq_eqB h]
      rfl
    · rfl
  all_goals rfl

theorem leafIfs_true : ∀ (us vs : List V), us.length = vs.length → leafIfs true us vs = us
  | [], [], _ => rfl
  | u :: us, v :: vs, h => by rw [leafIfs, leafIf_true, leafIfs_true us vs (by simpa using h)]
  | [], _ :: _, h => by simp at h
  | _ :: _, [], h => by simp at h

theorem leafIfs_false : ∀ (us vs : List V), us.length = vs.length → leafIfs false us vs = vs
  | [], [], _ => rfl
  | u :: us, v :: vs, h => by rw [leafIfs, leafIf_false, leafIfs_false us vs (by simpa using h)]
  | [], _ :: _, h => by simp at h
  | _ :: _, [], h => by simp at h

theorem vif_eq (b : Bool) (u v : V) : vif b u v = bif b then u else v := by
  unfold vif
  split
  · split
    · rename_i h
      have h := Nat.eq_of_beq_eq_true h
      cases b with
      | true => rw [leafIfs_true _ _ h]; rfl
      | false => rw [leafIfs_false _ _ h]; rfl
    · rfl
  · rfl

theorem leafIf_eq (b : Bool) (u v : V) : leafIf b u v = bif b then u else v := by
  cases b with
  | true => exact leafIf_true u v
  | false => exact leafIf_false u v

theorem vifS_eq (b : Bool) (u v : V) : vifS b u v = bif b then u else v := by
  unfold vifS
  split
  · split
    · rename_i h
      have h := Nat.eq_of_beq_eq_true h
      cases b with
      | true => rw [leafIfs_true _ _ h]; rfl
      | false => rw [leafIfs_false _ _ h]; rfl
    · rfl
  · exact leafIf_eq _ _ _

theorem pickG_eq : ∀ (l : List V) (i : Nat), i < l.length → pickG l i = nth l i
  | [], _, h => by simp at h
  | [v], i, h => by
    have : i = 0 := by simpa using h
    subst this
    rfl
  | v :: u :: l, 0, _ => by
    rw [pickG, vifS_eq]
    · rfl
    · simp
  | v :: u :: l, i + 1, h => by
    rw [pickG, vifS_eq]
    · show (bif Nat.beq (i + 1) 0 then v else pickG (u :: l) (i + 1 - 1)) = nth (u :: l) i
      rw [Nat.add_sub_cancel, pickG_eq (u :: l) i (by simpa using h)]
      rfl
    · simp

theorem partsN_some {f : Nat → Option V} : ∀ {m k : Nat} {l : List V}, partsN f m k = some l → l.length = m ∧ ∀ i, i < m → f (k + i) = some (nth l i)
  | 0, k, l, h => by
    simp only [partsN, Option.some.injEq] at h
    subst h
    exact ⟨rfl, fun i hi => absurd hi (Nat.not_lt_zero _)⟩
  | m + 1, k, l, h => by
    unfold partsN at h
    split at h
    · rename_i v l' h1 h2
      simp only [Option.some.injEq] at h
      subst h
      obtain ⟨q1, q2⟩ := partsN_some h2
      refine ⟨by simp [q1], fun i hi => ?_⟩
      cases i with
      | zero => exact h1
      | succ i =>
        have := q2 i (by omega)
        rw [show k + (i + 1) = Nat.succ k + i by omega]
        exact this
    · cases h

theorem pushGet_eq (n : Nat) (g : Nat → V) (x : V) (i : Nat) : pushGet n g x i = bif Nat.beq i n then x else g i := vif_eq _ _ _
theorem appGet_eq (n : Nat) (g g' : Nat → V) (i : Nat) : appGet n g g' i = bif Nat.blt i n then g i else g' (i - n) := vif_eq _ _ _
theorem setGet_eq (g : Nat → V) (k : Nat) (x : V) (i : Nat) : setGet g k x i = bif Nat.beq i k then x else g i := vif_eq _ _ _


/-- Cells lie in memory that nobody writes, from a place on. -/
def At (S : Nat → Prop) (w : World) (b o : Nat) (cs : List Value) : Prop :=
  ∀ j v, cs[j]? = some v → S b ∧ w.cell? ⟨b, o + j, none⟩ = some v

/-- What a symbolic value means, in memory S that nobody writes; κ: what the names of own blocks mean. -/
def VR (S : Nat → Prop) (w : World) : V → (Nat → Option Value) → Value → Prop
  | .val v, _, c => c = v
  | .str l, _, c => c = .string ⟨l.toArray⟩
  | .agg cs, κ, c => ∃ ca : List Value, c = .agg ca.toArray ∧ go cs κ ca
  | .tup cs, κ, c => ∃ ca : List Value, c = .tuple ca.toArray ∧ go cs κ ca
  | .fn f cs, κ, c => ∃ ca : List Value, c = .func (.func f) #[] ca.toArray ∧ go cs κ ca
  | .nilS, _, c => c = .slice none 0 0
  | .sl s n g, _, c => ∃ a cap, c = .slice a n cap ∧ n ≤ cap ∧ (n = 0 ∨ ∃ b o, a = some ⟨b, o, none⟩ ∧
      ∀ i, i < n → ∃ ci, VR S w (g i) (fun _ => none) ci ∧ ci.cells.size = s ∧ (∀ u ∈ ci.cells.toList, u.oneCell' = true) ∧ At S w b (o + i * s) ci.cells.toList)
  | .slr s n m g, _, c => ∃ a cap, c = .slice a n cap ∧ n ≤ m ∧ m ≤ cap ∧ (m = 0 ∨ ∃ b o, a = some ⟨b, o, none⟩ ∧
      ∀ i, i < m → ∃ ci, VR S w (g i) (fun _ => none) ci ∧ ci.cells.size = s ∧ (∀ u ∈ ci.cells.toList, u.oneCell' = true) ∧ At S w b (o + i * s) ci.cells.toList)
  | .pp v, _, c => ∃ b o cv, c = .pointer (some ⟨b, o, none⟩) ∧ VR S w v (fun _ => none) cv ∧ At S w b o cv.cells.toList
  | .ptr id off, κ, c => ∃ g, κ id = some (.pointer (some ⟨g, 0, none⟩)) ∧ c = .pointer (some ⟨g, off, none⟩)
  | .ref id, κ, c => κ id = some c ∧ ((∃ a n cap, c = .slice a n cap) ∨ ∃ b, c = .map (some b))
  | .ept id s i off, κ, c => ∃ g n cap, κ id = some (.slice (some ⟨g, 0, none⟩) n cap) ∧ c = .pointer (some ⟨g, i * s + off, none⟩)
  | .und, _, _ => True
  where go : List V → (Nat → Option Value) → List Value → Prop
  | [], _, l => l = []
  | v :: vs, κ, l => ∃ a l', l = a :: l' ∧ VR S w v κ a ∧ go vs κ l'

abbrev VRs (S : Nat → Prop) (w : World) := VR.go S w

def noK : Nat → Option Value := fun _ => none

theorem At.mono {S S' : Nat → Prop} {w w' : World} {b o : Nat} {cs : List Value} (h : At S w b o cs)
    (hS : ∀ b, S b → S' b ∧ w'.heap[b]? = w.heap[b]?) : At S' w' b o cs := by
  intro j v hj
  obtain ⟨h1, h2⟩ := h j v hj
  obtain ⟨h3, h4⟩ := hS b h1
  exact ⟨h3, by rw [← h2]; exact World.cell?_of_block (a := ⟨b, o + j, none⟩) h4⟩

section
variable {S S' : Nat → Prop} {w w' : World}

mutual
theorem VR.mono (hS : ∀ b, S b → S' b ∧ w'.heap[b]? = w.heap[b]?) : ∀ (v : V) (κ κ' : Nat → Option Value) (c : Value),
    (∀ id c, κ id = some c → κ' id = some c) → VR S w v κ c → VR S' w' v κ' c
  | .val _, _, _, _, _, h => h
  | .str _, _, _, _, _, h => h
  | .agg cs, _, _, _, hk, h => by
    obtain ⟨ca, e, h⟩ := h
    exact ⟨ca, e, VR.mono_go hS cs _ _ _ hk h⟩
  | .tup cs, _, _, _, hk, h => by
    obtain ⟨ca, e, h⟩ := h
    exact ⟨ca, e, VR.mono_go hS cs _ _ _ hk h⟩
  | .fn f cs, _, _, _, hk, h => by
    obtain ⟨ca, e, h⟩ := h
    exact ⟨ca, e, VR.mono_go hS cs _ _ _ hk h⟩
  | .nilS, _, _, _, _, h => h
  | .sl s n g, _, _, _, _, h => by
    obtain ⟨a, cap, e, hc, h⟩ := h
    refine ⟨a, cap, e, hc, h.imp id ?_⟩
    rintro ⟨b, o, ea, h⟩
    refine ⟨b, o, ea, fun i hi => ?_⟩
    obtain ⟨ci, h1, h2, h3, h4⟩ := h i hi
    exact ⟨ci, VR.mono hS (g i) _ _ _ (fun _ _ h => h) h1, h2, h3, h4.mono hS⟩
  | .slr s n m g, _, _, _, _, h => by
    obtain ⟨a, cap, e, hc, hm, h⟩ := h
    refine ⟨a, cap, e, hc, hm, h.imp id ?_⟩
    rintro ⟨b, o, ea, h⟩
    refine ⟨b, o, ea, fun i hi => ?_⟩
    obtain ⟨ci, h1, h2, h3, h4⟩ := h i hi
    exact ⟨ci, VR.mono hS (g i) _ _ _ (fun _ _ h => h) h1, h2, h3, h4.mono hS⟩
  | .pp v, _, _, _, _, h => by
    obtain ⟨b, o, cv, e, h1, h2⟩ := h
    exact ⟨b, o, cv, e, VR.mono hS v _ _ _ (fun _ _ h => h) h1, h2.mono hS⟩
  | .ptr id off, _, _, _, hk, h => by
    obtain ⟨g, h1, h2⟩ := h
    exact ⟨g, hk _ _ h1, h2⟩
  | .ref id, _, _, _, hk, h => ⟨hk _ _ h.1, h.2⟩
  | .ept id s i off, _, _, _, hk, h => by
    obtain ⟨g, n, cap, h1, h2⟩ := h
    exact ⟨g, n, cap, hk _ _ h1, h2⟩
  | .und, _, _, _, _, _ => trivial
theorem VR.mono_go (hS : ∀ b, S b → S' b ∧ w'.heap[b]? = w.heap[b]?) : ∀ (vs : List V) (κ κ' : Nat → Option Value) (l : List Value),
    (∀ id c, κ id = some c → κ' id = some c) → VRs S w vs κ l → VRs S' w' vs κ' l
  | [], _, _, _, _, h => h
  | v :: vs, _, _, _, hk, h => by
    obtain ⟨a, l', e, h1, h2⟩ := h
    exact ⟨a, l', e, VR.mono hS v _ _ _ hk h1, VR.mono_go hS vs _ _ _ hk h2⟩
end
end

section
variable {S : Nat → Prop} {w : World} {κ : Nat → Option Value}

theorem VRs.nil : VRs S w [] κ [] := rfl
theorem VRs.cons {v : V} {vs : List V} {a : Value} {l : List Value} (h : VR S w v κ a) (hs : VRs S w vs κ l) : VRs S w (v :: vs) κ (a :: l) := ⟨a, l, rfl, h, hs⟩

theorem VRs.length : ∀ {vs : List V} {l : List Value}, VRs S w vs κ l → l.length = vs.length
  | [], _, h => by rw [show _ = [] from h]; rfl
  | v :: vs, _, h => by
    obtain ⟨a, l', rfl, _, h2⟩ := h
    simp [VRs.length h2]

theorem VRs.get : ∀ {vs : List V} {l : List Value} {i : Nat} {v : V}, VRs S w vs κ l → vs[i]? = some v → ∃ c, l[i]? = some c ∧ VR S w v κ c
  | [], _, _, _, _, h => by simp at h
  | v :: vs, _, 0, u, h, hi => by
    obtain ⟨a, l', rfl, h1, h2⟩ := h
    simp at hi; subst hi
    exact ⟨a, by simp, h1⟩
  | v :: vs, _, i + 1, u, h, hi => by
    obtain ⟨a, l', rfl, h1, h2⟩ := h
    simp at hi
    obtain ⟨c, h3, h4⟩ := VRs.get h2 hi
    exact ⟨c, by simpa using h3, h4⟩

theorem nth_eq : ∀ (l : List V) (n : Nat), nth l n = (l[n]?).getD .und
  | [], _ => by simp [nth]
  | _ :: _, 0 => by simp [nth]
  | _ :: l, n + 1 => by simp [nth, nth_eq l n]

theorem VRs.nth {vs : List V} {l : List Value} (h : VRs S w vs κ l) (i : Nat) (d : Value) : VR S w (nth vs i) κ (l.getD i d) := by
  rw [nth_eq]
  cases hv : vs[i]? with
  | none => exact trivial
  | some v =>
    obtain ⟨c, h1, h2⟩ := h.get hv
    simp [List.getD, h1, h2]

theorem VRs.set : ∀ {vs : List V} {l : List Value} {v : V} {c : Value} (i : Nat), VRs S w vs κ l → VR S w v κ c → VRs S w (vs.set i v) κ (l.set i c)
  | [], _, _, _, _, h, _ => by rw [show _ = [] from h]; exact rfl
  | u :: vs, _, v, c, 0, h, hv => by
    obtain ⟨a, l', rfl, h1, h2⟩ := h
    exact ⟨c, l', rfl, hv, h2⟩
  | u :: vs, _, v, c, i + 1, h, hv => by
    obtain ⟨a, l', rfl, h1, h2⟩ := h
    exact ⟨a, l'.set i c, rfl, h1, VRs.set i h2 hv⟩

theorem VRs.append : ∀ {vs us : List V} {l m : List Value}, VRs S w vs κ l → VRs S w us κ m → VRs S w (vs ++ us) κ (l ++ m)
  | [], _, _, _, h, hu => by rw [show _ = [] from h]; exact hu
  | v :: vs, _, _, _, h, hu => by
    obtain ⟨a, l', rfl, h1, h2⟩ := h
    exact ⟨a, _, rfl, h1, VRs.append h2 hu⟩

theorem VRs.take : ∀ {vs : List V} {l : List Value} (n : Nat), VRs S w vs κ l → VRs S w (vs.take n) κ (l.take n)
  | _, _, 0, _ => by simp; exact rfl
  | [], _, n + 1, h => by rw [show _ = [] from h]; simp; exact rfl
  | v :: vs, _, n + 1, h => by
    obtain ⟨a, l', rfl, h1, h2⟩ := h
    exact ⟨a, _, rfl, h1, VRs.take n h2⟩

theorem VRs.drop : ∀ {vs : List V} {l : List Value} (n : Nat), VRs S w vs κ l → VRs S w (vs.drop n) κ (l.drop n)
  | _, _, 0, h => by simpa using h
  | [], _, n + 1, h => by rw [show _ = [] from h]; simp; exact rfl
  | v :: vs, _, n + 1, h => by
    obtain ⟨a, l', rfl, h1, h2⟩ := h
    simpa using VRs.drop n h2

theorem VR_solid : ∀ {v : V} {c : Value}, solid v = true → VR S w v κ c → c.cells = #[c] ∧ c.oneCell' = true
  | .val v, c, hs, h => by
    rw [show c = v from h]
    cases v <;> simp [solid] at hs <;> exact ⟨rfl, rfl⟩
  | .str l, c, _, h => by rw [show c = _ from h]; exact ⟨rfl, rfl⟩
  | .agg _, _, hs, _ => by simp [solid] at hs
  | .tup _, _, hs, _ => by simp [solid] at hs
  | .fn _ _, c, _, h => by obtain ⟨ca, e, _⟩ := h; subst e; exact ⟨rfl, rfl⟩
  | .nilS, c, _, h => by rw [show c = _ from h]; exact ⟨rfl, rfl⟩
  | .sl _ _ _, c, _, h => by obtain ⟨a, cap, e, _, _⟩ := h; subst e; exact ⟨rfl, rfl⟩
  | .slr _ _ _ _, c, _, h => by obtain ⟨a, cap, e, _, _⟩ := h; subst e; exact ⟨rfl, rfl⟩
  | .pp _, c, _, h => by obtain ⟨b, o, cv, e, _⟩ := h; subst e; exact ⟨rfl, rfl⟩
  | .ptr _ _, c, _, h => by obtain ⟨g, _, e⟩ := h; subst e; exact ⟨rfl, rfl⟩
  | .ref _, c, _, h => by rcases h with ⟨_, ⟨a, n, cap, e⟩ | ⟨b, e⟩⟩ <;> (subst e; exact ⟨rfl, rfl⟩)
  | .ept _ _ _ _, c, _, h => by obtain ⟨g, n, cap, _, e⟩ := h; subst e; exact ⟨rfl, rfl⟩
  | .und, _, hs, _ => by simp [solid] at hs

theorem VRs_solids : ∀ {vs : List V} {l : List Value}, solids vs = true → VRs S w vs κ l → ∀ u ∈ l, u.oneCell' = true
  | [], _, _, h => by rw [show _ = [] from h]; simp
  | v :: vs, _, hs, h => by
    obtain ⟨a, l', rfl, h1, h2⟩ := h
    simp only [solids] at hs
    split at hs
    · rename_i hv
      intro u hu
      rcases List.mem_cons.1 hu with rfl | hu
      · exact (VR_solid hv h1).2
      · exact VRs_solids hs h2 u hu
    · cases hs

/-- What lies in memory where a value is stored. -/
theorem VR_cells {v : V} {cs : List V} {c : Value} (hc : v.cells = some cs) (h : VR S w v κ c) :
    VRs S w cs κ c.cells.toList ∧ ∀ u ∈ c.cells.toList, u.oneCell' = true := by
  have one : solid v = true → some [v] = some cs → VRs S w cs κ c.cells.toList ∧ ∀ u ∈ c.cells.toList, u.oneCell' = true := by
    intro hs he
    obtain ⟨h1, h2⟩ := VR_solid hs h
    simp at he
    subst he
    rw [h1]
    exact ⟨⟨c, [], rfl, h, rfl⟩, by simp [h2]⟩
  cases v with
  | agg cs' =>
    simp only [V.cells] at hc
    split at hc
    · rename_i hs
      simp at hc; subst hc
      obtain ⟨ca, rfl, h⟩ := h
      exact ⟨by simpa [Value.cells] using h, by simpa [Value.cells] using VRs_solids hs h⟩
    · cases hc
  | val v => cases v <;> first | exact one rfl hc | (simp [V.cells] at hc)
  | tup _ => simp [V.cells] at hc
  | und => simp [V.cells] at hc
  | _ => exact one rfl hc

theorem VR_leafV (v : Value) : VR S w (leafV v) κ v := by
  unfold leafV
  split
  · rename_i s
    show Value.string s = _
    congr 1
  · exact rfl
  · trivial
  · trivial
  · exact rfl

theorem VRs_leafVs : ∀ (l : List Value), VRs S w (l.map leafV) κ l
  | [] => rfl
  | v :: l => ⟨v, l, rfl, VR_leafV v, VRs_leafVs l⟩

theorem VR_ofValue (v : Value) : VR S w (ofValue v) κ v := by
  unfold ofValue
  split
  · rename_i cs
    exact ⟨cs.toList, by simp, VRs_leafVs _⟩
  · exact VR_leafV v

end

/-! ### Own blocks -/

/-- What a map's block of an own map holds: at most n entries, of numbers by numbers. -/
def MapR (P : Program) (k e : TypeId) (n : Nat) (get : Int → Int) (o : Obj) : Prop :=
  ∃ es clock, o = .map es clock ∧ WideElems.Fit P k (plainElem (H := Unit) P e) es clock ∧ es.size ≤ n ∧
    ∀ x, (Lit.int .i64 x).wf = true → (DataW.map ((es.toList.map (WideElems.rg P k (plainElem (H := Unit) P e))).foldr DataW.insert [])).atKey (.int .i64 x) (.lit (.int .i64 0)) = .lit (.int .i64 (get x))

@[irreducible] def MapT (t : TypeId) (n : Nat) (get : Int → Int) (o : Obj) : Prop :=
  match theP.underlying t with
  | some (.map k e) => MapR theP k e n get o
  | _ => False

/-- The elements of a row, as cells. -/
def Elems (S : Nat → Prop) (w : World) (s n : Nat) (g : Nat → V) (xs : List Value) : Prop :=
  ∀ i, i < n → ∃ ci, VR S w (g i) noK ci ∧ ci.cells.size = s ∧ (∀ u ∈ ci.cells.toList, u.oneCell' = true) ∧ ∀ j, j < s → xs[i * s + j]? = ci.cells[j]?

def Holds (S : Nat → Prop) (w : World) (κ : Nat → Option Value) (v : Option Value) : Blk → Prop
  | .cells cs => ∃ g e ca, v = some (.pointer (some ⟨g, 0, none⟩)) ∧ w.heap[g]? = some (.cells ca e (0, 0)) ∧ VRs S w cs κ ca.toList
  | .row e s n g => 0 < s ∧ ∃ c xs, v = some c ∧ w.ownsRow 0 e s c n xs ∧ Elems S w s n g xs
  | .imap t n get => ∃ b o, v = some (.map (some b)) ∧ w.heap[b]? = some o ∧ MapT t n get o
  | .xrow _ e s n g => 0 < s ∧ ∃ c xs, v = some c ∧ w.ownsRow 0 e s c n xs ∧ Elems S w s n g xs
  | .dead => True

/-- The block that a name's block of its own lies in. -/
def blockOf : Option Value → Option Nat
  | some (.pointer (some a)) => some a.block
  | some (.slice (some a) _ _) => some a.block
  | some (.map (some b)) => some b
  | _ => none

def ownB (κ : Nat → Option Value) (h : List Blk) (i : Nat) : Option Nat :=
  match h[i]? with
  | some (.cells _) | some (.row _ _ _ _) | some (.imap _ _ _) | some (.xrow _ _ _ _ _) => blockOf (κ i)
  | _ => none

structure Good (κ : Nat → Option Value) (S : Nat → Prop) (h : List Blk) (w : World) : Prop where
  blk : ∀ i b, h[i]? = some b → Holds S w κ (κ i) b
  sep : ∀ i j g, i ≠ j → ownB κ h i = some g → ownB κ h j ≠ some g
  out : ∀ b, S b → b < w.heap.size ∧ ∀ i, ownB κ h i ≠ some b
  dom : ∀ i, h.length ≤ i → κ i = none

/-- The first cells of a block are as they were, and it is as great. -/
def Kept (w w' : World) (b p : Nat) : Prop := ∀ ca e z, w.heap[b]? = some (.cells ca e z) → ∃ ca', w'.heap[b]? = some (.cells ca' e z) ∧ ca'.size = ca.size ∧ ∀ j, j < p → ca'[j]? = ca[j]?

/-- A block whose first cells nobody writes over: it is no own block, or one that is appended to alone. -/
def Safe (κ : Nat → Option Value) (h : List Blk) (w : World) (b p : Nat) : Prop :=
  b < w.heap.size ∧ ∀ i, ownB κ h i = some b → ∃ e s n g, h[i]? = some (.xrow true e s n g) ∧ p ≤ n * s

structure Ext (κ : Nat → Option Value) (S : Nat → Prop) (h : List Blk) (w : World) (κ' : Nat → Option Value) (S' : Nat → Prop) (h' : List Blk) (w' : World) : Prop where
  os : w'.os = w.os
  tape : w'.tape = w.tape
  output : w'.output = w.output
  size : w.heap.size ≤ w'.heap.size
  keep : ∀ b, b < w.heap.size → (∀ i, ownB κ h i ≠ some b) → w'.heap[b]? = w.heap[b]?
  own : ∀ i b, ownB κ' h' i = some b → (∃ j, ownB κ h j = some b) ∨ w.heap.size ≤ b
  sub : ∀ b, S' b → S b ∨ (∃ j, ownB κ h j = some b) ∨ w.heap.size ≤ b
  sup : ∀ b, S b → S' b
  pre : ∀ b p, Safe κ h w b p → Safe κ' h' w' b p ∧ Kept w w' b p
  fix : ∀ i e s n g, h'[i]? = some (.xrow false e s n g) → κ' i = κ i ∧ ∃ g0, h[i]? = some (.xrow false e s n g0)

theorem Kept.refl (w : World) (b p : Nat) : Kept w w b p := fun ca _ _ h => ⟨ca, h, rfl, fun _ _ => rfl⟩
theorem Kept.same {w w' : World} {b p : Nat} (h : w'.heap[b]? = w.heap[b]?) : Kept w w' b p := fun ca _ _ hc => ⟨ca, by rw [h]; exact hc, rfl, fun _ _ => rfl⟩
theorem Kept.trans {w w' w'' : World} {b p : Nat} (h : Kept w w' b p) (h' : Kept w' w'' b p) : Kept w w'' b p := fun ca e z hc => by
  obtain ⟨c1, q1, q2, q3⟩ := h ca e z hc
  obtain ⟨c2, r1, r2, r3⟩ := h' c1 e z q1
  exact ⟨c2, r1, r2.trans q2, fun j hj => (r3 j hj).trans (q3 j hj)⟩
theorem Kept.mono {w w' : World} {b p p' : Nat} (h : Kept w w' b p) (hp : p' ≤ p) : Kept w w' b p' := fun ca e z hc => by
  obtain ⟨c1, q1, q2, q3⟩ := h ca e z hc
  exact ⟨c1, q1, q2, fun j hj => q3 j (Nat.lt_of_lt_of_le hj hp)⟩

/-- 'pre' where each old own block is either told no more or still that of a row that is appended to. -/
theorem pre_of {κ κ' : Nat → Option Value} {h h' : List Blk} {w w' : World} (hsz : w.heap.size ≤ w'.heap.size) (keep : ∀ b, b < w.heap.size → (∀ i, ownB κ h i ≠ some b) → w'.heap[b]? = w.heap[b]?)
    (own : ∀ i b, ownB κ' h' i = some b → b < w.heap.size → ∃ j, ownB κ h j = some b ∧ ∀ e s n g, h[j]? = some (.xrow true e s n g) → ∃ e' s' n' g', h'[i]? = some (.xrow true e' s' n' g') ∧ n * s ≤ n' * s')
    (hx : ∀ i e s n g b, h[i]? = some (.xrow true e s n g) → ownB κ h i = some b → Kept w w' b (n * s)) :
    ∀ b p, Safe κ h w b p → Safe κ' h' w' b p ∧ Kept w w' b p := by
  intro b p hs
  refine ⟨⟨Nat.lt_of_lt_of_le hs.1 hsz, fun i hi => ?_⟩, ?_⟩
  · obtain ⟨j, hj, hx'⟩ := own i b hi hs.1
    obtain ⟨e, s, n, g, hh, hp⟩ := hs.2 j hj
    obtain ⟨e', s', n', g', q1, q2⟩ := hx' e s n g hh
    exact ⟨e', s', n', g', q1, Nat.le_trans hp q2⟩
  · by_cases hn : ∀ i, ownB κ h i ≠ some b
    · exact Kept.same (keep b hs.1 hn)
    · obtain ⟨i, hi⟩ := Classical.not_forall.1 hn
      have hi := Classical.not_not.1 hi
      obtain ⟨e, s, n, g, hh, hp⟩ := hs.2 i hi
      exact (hx i e s n g b hh hi).mono hp

theorem Ext.refl (κ : Nat → Option Value) (S : Nat → Prop) (h : List Blk) (w : World) : Ext κ S h w κ S h w :=
  ⟨rfl, rfl, rfl, Nat.le_refl _, fun _ _ _ => rfl, fun i _ hb => .inl ⟨i, hb⟩, fun _ hb => .inl hb, fun _ hb => hb, fun b p h => ⟨h, Kept.refl _ _ _⟩, fun _ _ _ _ g h => ⟨rfl, g, h⟩⟩

theorem Ext.trans {κ κ' κ'' : Nat → Option Value} {S S' S'' : Nat → Prop} {h h' h'' : List Blk} {w w' w'' : World}
    (a : Ext κ S h w κ' S' h' w') (b : Ext κ' S' h' w' κ'' S'' h'' w'') : Ext κ S h w κ'' S'' h'' w'' where
  os := b.os.trans a.os
  tape := b.tape.trans a.tape
  output := b.output.trans a.output
  size := Nat.le_trans a.size b.size
  keep := fun k hk hn => by
    rw [b.keep k (Nat.lt_of_lt_of_le hk a.size) (fun i hi => ?_), a.keep k hk hn]
    rcases a.own i k hi with ⟨j, hj⟩ | hle
    · exact hn j hj
    · omega
  own := fun i k hi => by
    rcases b.own i k hi with ⟨j, hj⟩ | hle
    · exact a.own j k hj
    · exact .inr (Nat.le_trans a.size hle)
  sub := fun k hk => by
    rcases b.sub k hk with h1 | ⟨j, hj⟩ | hle
    · exact a.sub k h1
    · exact (a.own j k hj).elim (fun h => .inr (.inl h)) (fun h => .inr (.inr h))
    · exact .inr (.inr (Nat.le_trans a.size hle))
  sup := fun k hk => b.sup k (a.sup k hk)
  pre := fun k p hk => by
    obtain ⟨h1, h2⟩ := a.pre k p hk
    obtain ⟨h3, h4⟩ := b.pre k p h1
    exact ⟨h3, h2.trans h4⟩
  fix := fun i e s n g hi => by
    obtain ⟨h1, g1, h2⟩ := b.fix i e s n g hi
    obtain ⟨h3, g2, h4⟩ := a.fix i e s n g1 h2
    exact ⟨h1.trans h3, g2, h4⟩

/-- What is known of memory that nobody writes stays. -/
theorem Ext.pers {κ κ' : Nat → Option Value} {S S' : Nat → Prop} {h h' : List Blk} {w w' : World} (e : Ext κ S h w κ' S' h' w') (g : Good κ S h w) :
    ∀ b, S b → S' b ∧ w'.heap[b]? = w.heap[b]? :=
  fun b hb => ⟨e.sup b hb, e.keep b (g.out b hb).1 (g.out b hb).2⟩

theorem Elems.mono {S S' : Nat → Prop} {w w' : World} {s n : Nat} {g : Nat → V} {xs : List Value} (h : Elems S w s n g xs)
    (hS : ∀ b, S b → S' b ∧ w'.heap[b]? = w.heap[b]?) : Elems S' w' s n g xs := fun i hi => by
  obtain ⟨ci, h1, h2, h3, h4⟩ := h i hi
  exact ⟨ci, VR.mono hS _ _ _ _ (fun _ _ h => h) h1, h2, h3, h4⟩

end Go.Sy

