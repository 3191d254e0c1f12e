/-
  Rounds between which rows change their names: a loop that makes a new row in each round and keeps it alone. No conditions.
-/
import Derived.Test.YtkcbdemfmjciiaaGreatDoorSyR
namespace Go.Sy

/-! ### Rows kept under new names, all else forgotten -/

def refAt : List Nat → Nat → Nat → Option Nat
  | [], _, _ => none
  | a :: l, j, k => match Nat.beq a j with
    | true => some k
    | false => refAt l j (Nat.succ k)

def pickW (is : List Nat) : V → V
  | .ref j => match refAt is j 0 with
    | some k => .ref k
    | none => .und
  | v => forgetV 0 v

def pickB (h : List Blk) (j : Nat) : Blk := match h[j]? with
  | some (.row e s n g) => .row e s n g
  | _ => .dead

def pickWs (is : List Nat) : List V → List V
  | [] => []
  | v :: l => pickW is v :: pickWs is l
def pickBs (h : List Blk) : List Nat → List Blk
  | [] => []
  | j :: l => pickB h j :: pickBs h l

def pickR (is : List Nat) (st : St) : St := ⟨pickWs is st.t, pickBs st.h is⟩

theorem refAt_some : ∀ (is : List Nat) (j k0 k : Nat), refAt is j k0 = some k → ∃ i, k = k0 + i ∧ is[i]? = some j
  | [], _, _, _, h => by cases h
  | a :: l, j, k0, k, h => by
    unfold refAt at h
    split at h
    · rename_i hb
      have := Nat.eq_of_beq_eq_true hb
      simp only [Option.some.injEq] at h
      exact ⟨0, h.symm, by simp [this]⟩
    · obtain ⟨i, h1, h2⟩ := refAt_some l j _ k h
      exact ⟨i + 1, by omega, by simpa using h2⟩

theorem pickBs_get (h : List Blk) : ∀ (is : List Nat) (i : Nat), (pickBs h is)[i]? = (is[i]?).map (pickB h)
  | [], i => by simp [pickBs]
  | j :: l, 0 => by simp [pickBs]
  | j :: l, i + 1 => by simpa [pickBs] using pickBs_get h l i
theorem pickBs_len (h : List Blk) : ∀ (is : List Nat), (pickBs h is).length = is.length
  | [] => rfl
  | j :: l => by simp [pickBs, pickBs_len h l]

theorem pickB_row {h : List Blk} {j : Nat} {b : Blk} (hb : pickB h j = b) (hd : b ≠ .dead) : h[j]? = some b ∧ ∃ e s n g, b = .row e s n g := by
  unfold pickB at hb
  split at hb
  · rename_i e s n g hh
    subst hb
    exact ⟨hh, e, s, n, g, rfl⟩
  · exact absurd hb.symm hd

/-- What the new names mean. -/
def pickK (κ : Nat → Option Value) (is : List Nat) (k : Nat) : Option Value := match is[k]? with
  | some j => κ j
  | none => none

section
variable {S : Nat → Prop} {w : World} {κ : Nat → Option Value} {is : List Nat}

theorem pickK_of {k j : Nat} (h : is[k]? = some j) : pickK κ is k = κ j := by unfold pickK; rw [h]

theorem VR_pick (v : V) (c : Value) (h : VR S w v κ c) : VR S w (pickW is v) (pickK κ is) c := by
  unfold pickW
  split
  · rename_i j
    split
    · rename_i k hk
      obtain ⟨i, h1, h2⟩ := refAt_some is j 0 k hk
      rw [Nat.zero_add] at h1
      subst h1
      exact ⟨by rw [pickK_of h2]; exact h.1, h.2⟩
    · trivial
  · exact VR_forget (fun i hi => absurd hi (Nat.not_lt_zero i)) v c h

theorem VRs_pick : ∀ (vs : List V) (l : List Value), VRs S w vs κ l → VRs S w (pickWs is vs) (pickK κ is) l
  | [], _, h => h
  | v :: vs, _, h => by
    obtain ⟨x, l', e, h1, h2⟩ := h
    exact ⟨x, l', e, VR_pick v _ h1, VRs_pick vs _ h2⟩
end

theorem LE_pick {Γ : Cx0} {is : List Nat} (hn : is.Nodup) (st : St) : LE Γ st (pickR is st) := by
  intro κ S a w hr
  have hat : ∀ (i : Nat) (b : Blk), (pickBs st.h is)[i]? = some b → b ≠ .dead → ∃ j, is[i]? = some j ∧ st.h[j]? = some b ∧ ∃ e s n g, b = .row e s n g := by
    intro i b hb hd
    rw [pickBs_get, Option.map_eq_some_iff] at hb
    obtain ⟨j, h1, h2⟩ := hb
    obtain ⟨h3, h4⟩ := pickB_row h2 hd
    exact ⟨j, h1, h3, h4⟩
  have hown : ∀ (i b : Nat), ownB (pickK κ is) (pickBs st.h is) i = some b → ∃ j, is[i]? = some j ∧ ownB κ st.h j = some b ∧ ∃ e s n g, st.h[j]? = some (.row e s n g) := by
    intro i b hb
    obtain ⟨bl, q1, q2, q3⟩ := ownB_some hb
    obtain ⟨j, h1, h2, e, s, n, g, h3⟩ := hat i bl q1 q2
    rw [pickK_of h1] at q3
    exact ⟨j, h1, by rw [ownB_of h2 q2]; exact q3, e, s, n, g, by rw [h2, h3]⟩
  refine ⟨pickK κ is, S, ⟨⟨?_, ?_, ?_, ?_⟩, hr.env, VRs_pick _ _ hr.tmps, hr.defers⟩,
    ⟨rfl, rfl, rfl, Nat.le_refl _, fun _ _ _ => rfl, fun i b hb => ?_, fun _ hb => .inl hb, fun _ hb => hb,
      pre_of (Nat.le_refl _) (fun _ _ _ => rfl) (fun i b hb _ => ?_) (fun _ _ _ _ _ _ _ _ => Kept.refl _ _ _), fun i e s m g hi => ?_⟩⟩
  · intro i b hi
    by_cases hd : b = .dead
    · subst hd; trivial
    · obtain ⟨j, h1, h2, e, s, n, g, rfl⟩ := hat i b hi hd
      have h3 : Holds S w κ (κ j) (.row e s n g) := hr.good.blk j _ h2
      show Holds S w (pickK κ is) (pickK κ is i) (.row e s n g)
      rw [pickK_of h1]
      exact h3
  · intro i j b hij hi hj
    obtain ⟨i', h1, h2, _⟩ := hown i b hi
    obtain ⟨j', h3, h4, _⟩ := hown j b hj
    refine hr.good.sep i' j' b (fun e => hij ?_) h2 h4
    subst e
    exact (List.getElem?_inj (List.getElem?_eq_some_iff.1 h1).1 hn).1 (h1.trans h3.symm)
  · intro b hb
    refine ⟨(hr.good.out b hb).1, fun i hi => ?_⟩
    obtain ⟨j, _, h2, _⟩ := hown i b hi
    exact (hr.good.out b hb).2 j h2
  · intro i hi
    have hi : (pickBs st.h is).length ≤ i := hi
    rw [pickBs_len] at hi
    unfold pickK
    rw [List.getElem?_eq_none hi]
  · obtain ⟨j, _, h2, _⟩ := hown i b hb
    exact .inl ⟨j, h2⟩
  · obtain ⟨j, _, h2, e, s, n, g, h3⟩ := hown i b hb
    exact ⟨j, h2, fun e' s' n' g' h4 => by rw [h3] at h4; cases h4⟩
  · obtain ⟨j, _, h2, e', s', n', g', h3⟩ := hat i _ hi (by simp)
    cases h3

/-! ### Rounds -/

/-- A loop gone through round by round; between rounds the rows that the state says are kept, under new names. -/
def iterR (f : St → T (Ex × St)) (l : Lp) (ps : St → List Nat) : Nat → St → T (Ex × St)
  | 0, _ => .fail
  | m + 1, st => (f st).bind fun r => match r.1 with
    | .nm => iterR f l ps m (pickR (ps (cutS l.ks l.n r.2)) (cutS l.ks l.n r.2))
    | .ex i => .leaf (.ex i, pickR (ps (cutS l.ke l.ne r.2)) (cutS l.ke l.ne r.2))
    | .rt => .leaf (.rt, pickR (ps (cutS l.ke l.ne r.2)) (cutS l.ke l.ne r.2))

theorem iterR_run {Γ : Cx0} {f : St → T (Ex × St)} {l : Lp} {ps : St → List Nat} (hp : ∀ st, (ps st).Nodup) : ∀ {m : Nat} {st : St} {r : Ex × St}, (iterR f l ps m st).sem = some r → LoopRun Γ f st r
  | 0, _, _, h => by cases h
  | m + 1, st, r, h => by
    obtain ⟨⟨e, st1⟩, h1, h2⟩ := sem_bind_some h
    cases e with
    | nm => exact .next h1 ((LE_cut _ _ _).trans (LE_pick (hp _) _)) (iterR_run hp h2)
    | ex i =>
      have := sem_leaf h2
      subst this
      exact .stop h1 (by simp) ((LE_cut _ _ _).trans (LE_pick (hp _) _))
    | rt =>
      have := sem_leaf h2
      subst this
      exact .stop h1 (by simp) ((LE_cut _ _ _).trans (LE_pick (hp _) _))

theorem iterR_le {f f' : St → T (Ex × St)} (h : ∀ st, TLe (f st) (f' st)) (l : Lp) (ps : St → List Nat) : ∀ (m : Nat) (st : St), TLe (iterR f l ps m st) (iterR f' l ps m st)
  | 0, _ => TLe.refl _
  | m + 1, st => by
    refine TLe.bind (h st) fun r => ?_
    cases r.1 with
    | nm => exact iterR_le h l ps m _
    | ex i => exact TLe.refl _
    | rt => exact TLe.refl _

/-- One loop, gone through so. -/
def loopR (k : Nat) (l : Lp) (ps : St → List Nat) (id : Nat) (f : St → T (Ex × St)) (st : St) : T (Ex × St) :=
  match Nat.beq id k with
  | true => iterR f l ps l.fuel st
  | false => .fail

theorem loopR_le (k : Nat) (l : Lp) (ps : St → List Nat) : LLe (loopR k l ps) (loopR k l ps) := fun id f f' st h => by
  unfold loopR
  split
  · exact iterR_le h _ _ _ _
  · exact TLe.refl _

def cxR (G : Nat → V) (tbl : List (Nat × (List V → T (V × List Blk)))) (k : Nat) (l : Lp) (ps : St → List Nat) : Cx := ⟨callT tbl, loopR k l ps, G⟩

theorem cxR_ok {P : Program} {G : Nat → V} {tbl : List (Nat × (List V → T (V × List Blk)))} (h : AllPure P G tbl) (k : Nat) (l : Lp) {ps : St → List Nat} (hp : ∀ st, (ps st).Nodup) : CallOK P (cxR G tbl k l ps).base ∧ LoopOK (cxR G tbl k l ps) :=
  ⟨callT_ok rfl h, fun id f st r hr => by
    have hr : (loopR k l ps id f st).sem = some r := hr
    unfold loopR at hr
    split at hr
    · exact iterR_run hp hr
    · cases hr⟩

/-- One round told. -/
theorem iterR_nm {f : St → T (Ex × St)} {l : Lp} {ps : St → List Nat} {m : Nat} {st st1 : St} (h : ((f st).bind fun r => T.leaf (cutR l r)).sem = some (.nm, st1)) :
    (iterR f l ps (m + 1) st).sem = (iterR f l ps m (pickR (ps st1) st1)).sem := by
  obtain ⟨⟨e, st2⟩, h1, h2⟩ := sem_bind_some h
  have h2 := (sem_leaf h2).symm
  cases e with
  | nm =>
    have h2 : (Ex.nm, cutS l.ks l.n st2) = (Ex.nm, st1) := h2
    simp only [Prod.mk.injEq, true_and] at h2
    subst h2
    show ((f st).bind _).sem = _
    rw [sem_bind, h1]
  | ex i => exact absurd h2 (by unfold cutR; simp)
  | rt => exact absurd h2 (by unfold cutR; simp)
theorem iterR_ex {f : St → T (Ex × St)} {l : Lp} {ps : St → List Nat} {m : Nat} {st st1 : St} {e : Ex} (he : e ≠ .nm) (h : ((f st).bind fun r => T.leaf (cutR l r)).sem = some (e, st1)) :
    (iterR f l ps (m + 1) st).sem = some (e, pickR (ps st1) st1) := by
  obtain ⟨⟨e', st2⟩, h1, h2⟩ := sem_bind_some h
  have h2 := (sem_leaf h2).symm
  cases e' with
  | nm =>
    have h2 : (Ex.nm, cutS l.ks l.n st2) = (e, st1) := h2
    simp only [Prod.mk.injEq] at h2
    exact absurd h2.1.symm he
  | ex i =>
    have h2 : (Ex.ex i, cutS l.ke l.ne st2) = (e, st1) := h2
    simp only [Prod.mk.injEq] at h2
    obtain ⟨rfl, rfl⟩ := h2
    show ((f st).bind _).sem = _
    rw [sem_bind, h1]
    rfl
  | rt =>
    have h2 : (Ex.rt, cutS l.ke l.ne st2) = (e, st1) := h2
    simp only [Prod.mk.injEq] at h2
    obtain ⟨rfl, rfl⟩ := h2
    show ((f st).bind _).sem = _
    rw [sem_bind, h1]
    rfl
end Go.Sy
