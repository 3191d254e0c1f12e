/-
  Lists of numbers and of bools, handed on. No conditions.
-/
import Derived.Test.YtcaljjnadbpacaaDoorCyD
import Derived.Test.YtcaljjnadbpacaaDoorSyS
namespace Go.Proofs.YtcaljjnadbpacaaDoor.Ed
open Go.Sy

def okI (v : V) : Bool := match gI v with
  | some _ => true
  | none => false
def edI (v : V) : Int := match gI v with
  | some e => e
  | none => 0

theorem okI_spec {v : V} (h : okI v = true) : v = iV (edI v) := by
  unfold okI at h
  unfold edI
  split at h
  · rename_i e he
    exact gI_some he
  · cases h

def intsV (n : Nat) (f : Nat → Int) : V := .sl 1 n fun i => iV (f i)

def gSlI : V → Option (Nat × (Nat → V))
  | .sl s n g => match Nat.beq s 1 with
    | true => some (n, g)
    | false => none
  | _ => none

def apI {α : Type} (v : V) (F : Nat → (Nat → Int) → T α) : T α :=
  match gSlI v with
  | some (n, g) => .br (allN n fun i => okI (g i)) (F n fun i => edI (g i)) .fail
  | none => .fail

theorem apI_some {α : Type} {v : V} {F : Nat → (Nat → Int) → T α} {r : α} (h : (apI v F).sem = some r) :
    ∃ n f, (∀ (S : Nat → Prop) (w : World) (c : Value), VR S w v noK c → VR S w (intsV n f) noK c) ∧ (F n f).sem = some r := by
  unfold apI at h
  split at h
  · rename_i n g hg
    obtain ⟨h1, h2⟩ := sem_br_fail h
    have h1 := allN_iff.1 h1
    refine ⟨n, _, fun S w c hv => ?_, h2⟩
    unfold gSlI at hg
    split at hg
    · rename_i s n' g'
      split at hg
      · rename_i hs
        simp only [Option.some.injEq, Prod.mk.injEq] at hg
        obtain ⟨rfl, rfl⟩ := hg
        have hs : s = 1 := Nat.eq_of_beq_eq_true hs
        subst hs
        obtain ⟨a, cap, e, hc, hb⟩ := hv
        refine ⟨a, cap, e, hc, hb.imp id ?_⟩
        rintro ⟨b, o, ea, hel⟩
        refine ⟨b, o, ea, fun i hi => ?_⟩
        have := hel i hi
        rw [okI_spec (h1 i hi)] at this
        exact this
      · cases hg
    · cases hg
  · cases h

def apI2 (F : Nat → (Nat → Int) → Nat → (Nat → Int) → T (V × List Blk)) : List V → T (V × List Blk)
  | [v, u] => apI v fun n f => apI u fun m g => F n f m g
  | _ => .fail

theorem apI2_some {F : Nat → (Nat → Int) → Nat → (Nat → Int) → T (V × List Blk)} {vs : List V} {r : V × List Blk} (h : (apI2 F vs).sem = some r) :
    ∃ n f m g, ArgLE vs [intsV n f, intsV m g] ∧ (F n f m g).sem = some r := by
  unfold apI2 at h
  split at h
  · obtain ⟨n, f, h1, h2⟩ := apI_some h
    obtain ⟨m, g, h3, h4⟩ := apI_some h2
    refine ⟨n, f, m, g, fun S w cs hv => ?_, h4⟩
    obtain ⟨c, l, rfl, q1, c', l', rfl, q2, q3⟩ := hv
    exact ⟨c, _, rfl, h1 S w c q1, c', l', rfl, h3 S w c' q2, q3⟩
  · cases h


def apI1 (F : Nat → (Nat → Int) → T (V × List Blk)) : List V → T (V × List Blk)
  | [v] => apI v F
  | _ => .fail

theorem apI1_some {F : Nat → (Nat → Int) → T (V × List Blk)} {vs : List V} {r : V × List Blk} (h : (apI1 F vs).sem = some r) : ∃ n f, ArgLE vs [intsV n f] ∧ (F n f).sem = some r := by
  unfold apI1 at h
  split at h
  · obtain ⟨n, f, h1, h2⟩ := apI_some h
    refine ⟨n, f, fun S w cs hv => ?_, h2⟩
    obtain ⟨c, l, rfl, q1, q2⟩ := hv
    exact ⟨c, l, rfl, h1 S w c q1, q2⟩
  · cases h

def okB (v : V) : Bool := match gB v with
  | some _ => true
  | none => false
def edB (v : V) : Bool := match gB v with
  | some e => e
  | none => false

theorem okB_spec {v : V} (h : okB v = true) : v = bV (edB v) := by
  unfold okB at h
  unfold edB
  split at h
  · rename_i e he
    exact gB_some he
  · cases h

def boolsV (n : Nat) (f : Nat → Bool) : V := .sl 1 n fun i => bV (f i)

def apB {α : Type} (v : V) (F : Nat → (Nat → Bool) → T α) : T α :=
  match gSlI v with
  | some (n, g) => .br (allN n fun i => okB (g i)) (F n fun i => edB (g i)) .fail
  | none => .fail

theorem apB_some {α : Type} {v : V} {F : Nat → (Nat → Bool) → T α} {r : α} (h : (apB v F).sem = some r) :
    ∃ n f, (∀ (S : Nat → Prop) (w : World) (c : Value), VR S w v noK c → VR S w (boolsV n f) noK c) ∧ (F n f).sem = some r := by
  unfold apB at h
  split at h
  · rename_i n g hg
    obtain ⟨h1, h2⟩ := sem_br_fail h
    have h1 := allN_iff.1 h1
    refine ⟨n, _, fun S w c hv => ?_, h2⟩
    unfold gSlI at hg
    split at hg
    · rename_i s n' g'
      split at hg
      · rename_i hs
        simp only [Option.some.injEq, Prod.mk.injEq] at hg
        obtain ⟨rfl, rfl⟩ := hg
        have hs : s = 1 := Nat.eq_of_beq_eq_true hs
        subst hs
        obtain ⟨a, cap, e, hc, hb⟩ := hv
        refine ⟨a, cap, e, hc, hb.imp id ?_⟩
        rintro ⟨b, o, ea, hel⟩
        refine ⟨b, o, ea, fun i hi => ?_⟩
        have := hel i hi
        rw [okB_spec (h1 i hi)] at this
        exact this
      · cases hg
    · cases hg
  · cases h

def apB2 (F : Nat → (Nat → Bool) → Nat → (Nat → Bool) → T (V × List Blk)) : List V → T (V × List Blk)
  | [v, u] => apB v fun n f => apB u fun m g => F n f m g
  | _ => .fail

theorem apB2_some {F : Nat → (Nat → Bool) → Nat → (Nat → Bool) → T (V × List Blk)} {vs : List V} {r : V × List Blk} (h : (apB2 F vs).sem = some r) :
    ∃ n f m g, ArgLE vs [boolsV n f, boolsV m g] ∧ (F n f m g).sem = some r := by
  unfold apB2 at h
  split at h
  · obtain ⟨n, f, h1, h2⟩ := apB_some h
    obtain ⟨m, g, h3, h4⟩ := apB_some h2
    refine ⟨n, f, m, g, fun S w cs hv => ?_, h4⟩
    obtain ⟨c, l, rfl, q1, c', l', rfl, q2, q3⟩ := hv
    exact ⟨c, _, rfl, h1 S w c q1, c', l', rfl, h3 S w c' q2, q3⟩
  · cases h


def apB1 (F : Nat → (Nat → Bool) → T (V × List Blk)) : List V → T (V × List Blk)
  | [v] => apB v F
  | _ => .fail

theorem apB1_some {F : Nat → (Nat → Bool) → T (V × List Blk)} {vs : List V} {r : V × List Blk} (h : (apB1 F vs).sem = some r) : ∃ n f, ArgLE vs [boolsV n f] ∧ (F n f).sem = some r := by
  unfold apB1 at h
  split at h
  · obtain ⟨n, f, h1, h2⟩ := apB_some h
    refine ⟨n, f, fun S w cs hv => ?_, h2⟩
    obtain ⟨c, l, rfl, q1, q2⟩ := hv
    exact ⟨c, l, rfl, h1 S w c q1, q2⟩
  · cases h

theorem apLsem {α : Type} (n : Nat) (f : Nat → E6) (F : Nat → (Nat → E6) → T α) : (apL (edgesV n f) F).sem = (F n f).sem := by
  show sel (allN n fun i => okE (eV (f i))) (F n f).sem none = _
  rw [allN_ok]
  rfl

end Go.Proofs.YtcaljjnadbpacaaDoor.Ed
