/-
  Lists of numbers and of bools, handed on. No conditions.
-/
import Derived.Test.YtkcbdemfmjciiaaGreatDoorCyC
import Derived.Test.YtkcbdemfmjciiaaGreatDoorSyS
namespace Go.Proofs.YtkcbdemfmjciiaaGreatDoor.Ed
open Go.Sy

def okI (v : V) : Bool := match gI v with
  | some _ => true
  | none => false
def edI (v : V) : Int := match gI v with
  | some e => e
  | none => 0

theorem okI_spec {v : V} (h : okI v = true) : v = iV (edI v) := by
  unfold okI at h
  unfold edI
  split at h
  · rename_i e he
    exact gI_some he
  · cases h

def intsV (n : Nat) (f : Nat → Int) : V := .sl 1 n fun i => iV (f i)

def gSlI : V → Option (Nat × (Nat → V))
  | .sl s n g => match Nat.beq s 1 with
    | true => some (n, g)
    | false => none
  | _ => none

def apI {α : Type} (v : V) (F : Nat → (Nat → Int) → T α) : T α :=
  match gSlI v with
  | some (n, g) => .br (allN n fun i => okI (g i)) (F n fun i => edI (g i)) .fail
  | none => .fail

theorem apI_some {α : Type} {v : V} {F : Nat → (Nat → Int) → T α} {r : α} (h : (apI v F).sem = some r) :
    ∃ n f, (∀ (S : Nat → Prop) (w : World) (c : Value), VR S w v noK c → VR S w (intsV n f) noK c) ∧ (F n f).sem = some r := by
  unfold apI at h
  split at h
  · rename_i n g hg
    obtain ⟨h1, h2⟩ := sem_br_fail h
    have h1 := allN_iff.1 h1
    refine ⟨n, _, fun S w c hv => ?_, h2⟩
    unfold gSlI at hg
    split at hg
    · rename_i s n' g'
      split at hg
      · rename_i hs
        simp only [Option.some.injEq, Prod.mk.injEq] at hg
        obtain ⟨rfl, rfl⟩ := hg
        have hs : s = 1 := Nat.eq_of_beq_eq_true hs
        subst hs
        obtain ⟨a, cap, e, hc, hb⟩ := hv
        refine ⟨a, cap, e, hc, hb.imp id ?_⟩
        rintro ⟨b, o, ea, hel⟩
        refine ⟨b, o, ea, fun i hi => ?_⟩
        have := hel i hi
        rw [okI_spec (h1 i hi)] at this
        exact this
      · cases hg
    · cases hg
  · cases h

def apI2 (F : Nat → (Nat → Int) → Nat → (Nat → Int) → T (V × List Blk)) : List V → T (V × List Blk)
  | [v, u] => apI v fun n f => apI u fun m g => F n f m g
  | _ => .fail

theorem apI2_some {F : Nat → (Nat → Int) → Nat → (Nat → Int) → T (V × List Blk)} {vs : List V} {r : V × List Blk} (h : (apI2 F vs).sem = some r) :
    ∃ n f m g, ArgLE vs [intsV n f, intsV m g] ∧ (F n f m g).sem = some r := by
  unfold apI2 at h
  split at h
  · obtain ⟨n, f, h1, h2⟩ := apI_some h
    obtain ⟨m, g, h3, h4⟩ := apI_some h2
    refine ⟨n, f, m, g, fun S w cs hv => ?_, h4⟩
    obtain ⟨c, l, rfl, q1, c', l', rfl, q2, q3⟩ := hv
    exact ⟨c, _, rfl, h1 S w c q1, c', l', rfl, h3 S w c' q2, q3⟩
  · cases h


def apI1 (F : Nat → (Nat → Int) → T (V × List Blk)) : List V → T (V × List Blk)
  | [v] => apI v F
  | _ => .fail

theorem apI1_some {F : Nat → (Nat → Int) → T (V × List Blk)} {vs : List V} {r : V × List Blk} (h : (apI1 F vs).sem = some r) : ∃ n f, ArgLE vs [intsV n f] ∧ (F n f).sem = some r := by
  unfold apI1 at h
  split at h
  · obtain ⟨n, f, h1, h2⟩ := apI_some h
    refine ⟨n, f, fun S w cs hv => ?_, h2⟩
    obtain ⟨c, l, rfl, q1, q2⟩ := hv
    exact ⟨c, l, rfl, h1 S w c q1, q2⟩
  · cases h

def okB (v : V) : Bool := match gB v with
  | some _ => true
  | none => false
def edB (v : V) : Bool := match gB v with
  | some e => e
  | none => false

theorem okB_spec {v : V} (h : okB v = true) : v = bV (edB v) := by
  unfold okB at h
  unfold edB
  split at h
  · rename_i e he
    exact gB_some he
  · cases h

def boolsV (n : Nat) (f : Nat → Bool) : V := .sl 1 n fun i => bV (f i)

def apB {α : Type} (v : V) (F : Nat → (Nat → Bool) → T α) : T α :=
  match gSlI v with
  | some (n, g) => .br (allN n fun i => okB (g i)) (F n fun i => edB (g i)) .fail
  | none => .fail

theorem apB_some {α : Type} {v : V} {F : Nat → (Nat → Bool) → T α} {r : α} (h : (apB v F).sem = some r) :
    ∃ n f, (∀ (S : Nat → Prop) (w : World) (c : Value), VR S w v noK c → VR S w (boolsV n f) noK c) ∧ (F n f).sem = some r := by
  unfold apB at h
  split at h
  · rename_i n g hg
    obtain ⟨h1, h2⟩ := sem_br_fail h
    have h1 := allN_iff.1 h1
    refine ⟨n, _, fun S w c hv => ?_, h2⟩
    unfold gSlI at hg
    split at hg
    · rename_i s n' g'
      split at hg
      · rename_i hs
        simp only [Option.some.injEq, Prod.mk.injEq] at hg
        obtain ⟨rfl, rfl⟩ := hg
        have hs : s = 1 := Nat.eq_of_beq_eq_true hs
        subst hs
        obtain ⟨a, cap, e, hc, hb⟩ := hv
        refine ⟨a, cap, e, hc, hb.imp id ?_⟩
        rintro ⟨b, o, ea, hel⟩
        refine ⟨b, o, ea, fun i hi => ?_⟩
        have := hel i hi
        rw [okB_spec (h1 i hi)] at this
        exact this
      · cases hg
    · cases hg
  · cases h

theorem apLsem {α : Type} (n : Nat) (f : Nat → E6) (F : Nat → (Nat → E6) → T α) : (apL (edgesV n f) F).sem = (F n f).sem := by
  show sel (allN n fun i => okE (eV (f i))) (F n f).sem none = _
  rw [allN_ok]
  rfl

end Go.Proofs.YtkcbdemfmjciiaaGreatDoor.Ed



namespace Go.Proofs.YtkcbdemfmjciiaaGreatDoor.Ed
open Go.Sy

def fin102 (r : Nat) : Ex × St := (.rt, ⟨[.und, .und, iV (Int.ofNat r), .und, .und, .und, .und, .und, .und, .und, .und, .und, .und, .und, .und, .und, .und, .und, .und, .und, .und, .und, .und, .und, .und, .und, .und, .und, .und, .und, .und, .und, .und, .und, .und, .und, .und, .und, .und, .und, .und, .und, .und, .und, .und, .und, .und, .und, .und, .und, .und, .und, .und, .und, .und, .und, .und, .und, .und, .und, .und, .und, .und, .und, .und, .und, .und], []⟩)
def lp102 (n : Nat) (h : Nat → Int) : Lp := ⟨[true, false, false, true, true, true, true, false, false, false, false, false, false, false, false, false, false, false, false, false, false, false, false, false, false, false, false, false, false, false, false, false, false, false, false, false, false, false, false, false, false, false, false, false, false, false, false, false, false, false, false, false, false, false, false, false, false, false, false, false, false, false, false, false, false, false, false], 1, [false, false, true, false, false, false, false, false, false, false, false, false, false, false, false, false, false, false, false, false, false, false, false, false, false, false, false, false, false, false, false, false, false, false, false, false, false, false, false, false, false, false, false, false, false, false, false, false, false, false, false, false, false, false, false, false, false, false, false, false, false, false, false, false, false, false, false], 1, 3 * n + 4⟩
def st102 (n : Nat) (h : Nat → Int) (i t s : Nat) (j : Nat → V) : St := ⟨[.sl 1 n (fun k => iV (h k)), j 1, j 2, iV (Int.ofNat n), iV (Int.ofNat i), iV (Int.ofNat t), iV (Int.ofNat s), j 7, j 8, j 9, j 10, j 11, j 12, j 13, j 14, j 15, j 16, j 17, j 18, j 19, j 20, j 21, j 22, j 23, j 24, j 25, j 26, j 27, j 28, j 29, j 30, j 31, j 32, j 33, j 34, j 35, j 36, j 37, j 38, j 39, j 40, j 41, j 42, j 43, j 44, j 45, j 46, j 47, j 48, j 49, j 50, j 51, j 52, j 53, j 54, j 55, j 56, j 57, j 58, j 59, j 60, j 61, j 62, j 63, j 64, j 65, j 66], []⟩
noncomputable def body102 (L : Nat → (St → T (Ex × St)) → St → T (Ex × St)) : St → T (Ex × St) := fun st => evalC tab ⟨callT tb0, L, Gl⟩ (loopBody (gotoF 0 900 Tryz.f51) 0) 0 st
theorem rl102i (L : Nat → (St → T (Ex × St)) → St → T (Ex × St)) (n : Nat) (h : Nat → Int) (i t s : Nat)  (j : Nat → V) (h0 : ile (Int.ofNat n) (Int.ofNat i) = true) : ((body102 L (st102 n h i t s j)).bind fun r => T.leaf (cutR (lp102 n h) r)).sem = some (.rt, ⟨[.und, .und, (iV (sel (ilt (sel (ilt (wr IntKind.i64 (isub (Int.ofNat n) 1)) 0) 0 (wr IntKind.i64 (isub (Int.ofNat n) 1))) (sel (ilt (Int.ofNat t) (Int.ofNat i)) (Int.ofNat t) (Int.ofNat i))) (sel (ilt (wr IntKind.i64 (isub (Int.ofNat n) 1)) 0) 0 (wr IntKind.i64 (isub (Int.ofNat n) 1))) (sel (ilt (Int.ofNat t) (Int.ofNat i)) (Int.ofNat t) (Int.ofNat i)))), .und, .und, .und, .und, .und, .und, .und, .und, .und, .und, .und, .und, .und, .und, .und, .und, .und, .und, .und, .und, .und, .und, .und, .und, .und, .und, .und, .und, .und, .und, .und, .und, .und, .und, .und, .und, .und, .und, .und, .und, .und, .und, .und, .und, .und, .und, .und, .und, .und, .und, .und, .und, .und, .und, .und, .und, .und, .und, .und, .und, .und, .und, .und, .und], []⟩) := by
  exact sem_of_path (ds := [true, true, true, true, true, true, true, true, true]) (cs := [(ile (Int.ofNat n) (Int.ofNat i)), (ile (Int.ofNat n) (Int.ofNat i)), (ile (Int.ofNat n) (Int.ofNat i)), (ile (Int.ofNat n) (Int.ofNat i)), Bool.true, Bool.true, Bool.true, Bool.true, Bool.true]) (by kernel_rfl) (by simp only [h0] <;> rfl)
theorem rl102j (L : Nat → (St → T (Ex × St)) → St → T (Ex × St)) (n : Nat) (h : Nat → Int) (i t s : Nat)  (j : Nat → V) (h0 : ile (Int.ofNat n) (Int.ofNat i) = false) (h1 : ile (Int.ofNat n) (Int.ofNat t) = true) : ((body102 L (st102 n h i t s j)).bind fun r => T.leaf (cutR (lp102 n h) r)).sem = some (.rt, ⟨[.und, .und, (iV (sel (ilt (sel (ilt (wr IntKind.i64 (isub (Int.ofNat n) 1)) 0) 0 (wr IntKind.i64 (isub (Int.ofNat n) 1))) (sel (ilt (Int.ofNat t) (Int.ofNat i)) (Int.ofNat t) (Int.ofNat i))) (sel (ilt (wr IntKind.i64 (isub (Int.ofNat n) 1)) 0) 0 (wr IntKind.i64 (isub (Int.ofNat n) 1))) (sel (ilt (Int.ofNat t) (Int.ofNat i)) (Int.ofNat t) (Int.ofNat i)))), .und, .und, .und, .und, .und, .und, .und, .und, .und, .und, .und, .und, .und, .und, .und, .und, .und, .und, .und, .und, .und, .und, .und, .und, .und, .und, .und, .und, .und, .und, .und, .und, .und, .und, .und, .und, .und, .und, .und, .und, .und, .und, .und, .und, .und, .und, .und, .und, .und, .und, .und, .und, .und, .und, .und, .und, .und, .und, .und, .und, .und, .und, .und, .und], []⟩) := by
  exact sem_of_path (ds := [false, false, false, false, true, true, true, true, true]) (cs := [(ile (Int.ofNat n) (Int.ofNat i)), (ile (Int.ofNat n) (Int.ofNat i)), (ile (Int.ofNat n) (Int.ofNat i)), (ile (Int.ofNat n) (Int.ofNat i)), (ile (Int.ofNat n) (Int.ofNat t)), (ile (Int.ofNat n) (Int.ofNat t)), (ile (Int.ofNat n) (Int.ofNat t)), (ile (Int.ofNat n) (Int.ofNat t)), Bool.true]) (by kernel_rfl) (by simp only [h0, h1] <;> rfl)
theorem rl102s (L : Nat → (St → T (Ex × St)) → St → T (Ex × St)) (n : Nat) (h : Nat → Int) (i t s : Nat)  (j : Nat → V) (h0 : ile (Int.ofNat n) (Int.ofNat i) = false) (h1 : ile (Int.ofNat n) (Int.ofNat t) = false) (h2 : ile (Int.ofNat n) (Int.ofNat s) = true) : ((body102 L (st102 n h i t s j)).bind fun r => T.leaf (cutR (lp102 n h) r)).sem = some (.rt, ⟨[.und, .und, (iV (sel (ilt (sel (ilt (wr IntKind.i64 (isub (Int.ofNat n) 1)) 0) 0 (wr IntKind.i64 (isub (Int.ofNat n) 1))) (sel (ilt (Int.ofNat t) (Int.ofNat i)) (Int.ofNat t) (Int.ofNat i))) (sel (ilt (wr IntKind.i64 (isub (Int.ofNat n) 1)) 0) 0 (wr IntKind.i64 (isub (Int.ofNat n) 1))) (sel (ilt (Int.ofNat t) (Int.ofNat i)) (Int.ofNat t) (Int.ofNat i)))), .und, .und, .und, .und, .und, .und, .und, .und, .und, .und, .und, .und, .und, .und, .und, .und, .und, .und, .und, .und, .und, .und, .und, .und, .und, .und, .und, .und, .und, .und, .und, .und, .und, .und, .und, .und, .und, .und, .und, .und, .und, .und, .und, .und, .und, .und, .und, .und, .und, .und, .und, .und, .und, .und, .und, .und, .und, .und, .und, .und, .und, .und, .und, .und], []⟩) := by
  exact sem_of_path (ds := [false, false, false, false, false, false, false, false, true]) (cs := [(ile (Int.ofNat n) (Int.ofNat i)), (ile (Int.ofNat n) (Int.ofNat i)), (ile (Int.ofNat n) (Int.ofNat i)), (ile (Int.ofNat n) (Int.ofNat i)), (ile (Int.ofNat n) (Int.ofNat t)), (ile (Int.ofNat n) (Int.ofNat t)), (ile (Int.ofNat n) (Int.ofNat t)), (ile (Int.ofNat n) (Int.ofNat t)), (ile (Int.ofNat n) (Int.ofNat s))]) (by kernel_rfl) (by simp only [h0, h1, h2] <;> rfl)
theorem rl102e (L : Nat → (St → T (Ex × St)) → St → T (Ex × St)) (n : Nat) (h : Nat → Int) (i t s : Nat)  (j : Nat → V) (h0 : ile (Int.ofNat n) (Int.ofNat i) = false) (h1 : ile (Int.ofNat n) (Int.ofNat t) = false) (h2 : ile (Int.ofNat n) (Int.ofNat s) = false) (h3 : ieq (Int.ofNat n) 0 = false) (h4 : band (ile 0 (itmod (wr IntKind.i64 (iadd (Int.ofNat i) (Int.ofNat s))) (Int.ofNat n))) (ilt (itmod (wr IntKind.i64 (iadd (Int.ofNat i) (Int.ofNat s))) (Int.ofNat n)) (Int.ofNat n)) = true) (h5 : band (ile 0 (itmod (wr IntKind.i64 (iadd (Int.ofNat t) (Int.ofNat s))) (Int.ofNat n))) (ilt (itmod (wr IntKind.i64 (iadd (Int.ofNat t) (Int.ofNat s))) (Int.ofNat n)) (Int.ofNat n)) = true) (h6 : ieq (h (toN (itmod (wr IntKind.i64 (iadd (Int.ofNat i) (Int.ofNat s))) (Int.ofNat n)))) (h (toN (itmod (wr IntKind.i64 (iadd (Int.ofNat t) (Int.ofNat s))) (Int.ofNat n)))) = true) : ((body102 L (st102 n h i t s j)).bind fun r => T.leaf (cutR (lp102 n h) r)).sem = some (.nm, ⟨[(.sl 1 n (fun k => (iV (h k)))), .und, .und, (iV (Int.ofNat n)), (iV (Int.ofNat i)), (iV (Int.ofNat t)), (iV (wr IntKind.i64 (iadd (Int.ofNat s) 1))), .und, .und, .und, .und, .und, .und, .und, .und, .und, .und, .und, .und, .und, .und, .und, .und, .und, .und, .und, .und, .und, .und, .und, .und, .und, .und, .und, .und, .und, .und, .und, .und, .und, .und, .und, .und, .und, .und, .und, .und, .und, .und, .und, .und, .und, .und, .und, .und, .und, .und, .und, .und, .und, .und, .und, .und, .und, .und, .und, .und], []⟩) := by
  exact sem_of_path (ds := [false, false, false, false, false, false, false, false, false, false, true, false, true, true]) (cs := [(ile (Int.ofNat n) (Int.ofNat i)), (ile (Int.ofNat n) (Int.ofNat i)), (ile (Int.ofNat n) (Int.ofNat i)), (ile (Int.ofNat n) (Int.ofNat i)), (ile (Int.ofNat n) (Int.ofNat t)), (ile (Int.ofNat n) (Int.ofNat t)), (ile (Int.ofNat n) (Int.ofNat t)), (ile (Int.ofNat n) (Int.ofNat t)), (ile (Int.ofNat n) (Int.ofNat s)), (ieq (Int.ofNat n) 0), (band (ile 0 (itmod (wr IntKind.i64 (iadd (Int.ofNat i) (Int.ofNat s))) (Int.ofNat n))) (ilt (itmod (wr IntKind.i64 (iadd (Int.ofNat i) (Int.ofNat s))) (Int.ofNat n)) (Int.ofNat n))), (ieq (Int.ofNat n) 0), (band (ile 0 (itmod (wr IntKind.i64 (iadd (Int.ofNat t) (Int.ofNat s))) (Int.ofNat n))) (ilt (itmod (wr IntKind.i64 (iadd (Int.ofNat t) (Int.ofNat s))) (Int.ofNat n)) (Int.ofNat n))), (ieq (h (toN (itmod (wr IntKind.i64 (iadd (Int.ofNat i) (Int.ofNat s))) (Int.ofNat n)))) (h (toN (itmod (wr IntKind.i64 (iadd (Int.ofNat t) (Int.ofNat s))) (Int.ofNat n)))))]) (by kernel_rfl) (by simp only [h4, h5] <;> simp only [h0, h1, h2, h3, h6] <;> rfl)
theorem rl102g (L : Nat → (St → T (Ex × St)) → St → T (Ex × St)) (n : Nat) (h : Nat → Int) (i t s : Nat)  (j : Nat → V) (h0 : ile (Int.ofNat n) (Int.ofNat i) = false) (h1 : ile (Int.ofNat n) (Int.ofNat t) = false) (h2 : ile (Int.ofNat n) (Int.ofNat s) = false) (h3 : ieq (Int.ofNat n) 0 = false) (h4 : band (ile 0 (itmod (wr IntKind.i64 (iadd (Int.ofNat i) (Int.ofNat s))) (Int.ofNat n))) (ilt (itmod (wr IntKind.i64 (iadd (Int.ofNat i) (Int.ofNat s))) (Int.ofNat n)) (Int.ofNat n)) = true) (h5 : band (ile 0 (itmod (wr IntKind.i64 (iadd (Int.ofNat t) (Int.ofNat s))) (Int.ofNat n))) (ilt (itmod (wr IntKind.i64 (iadd (Int.ofNat t) (Int.ofNat s))) (Int.ofNat n)) (Int.ofNat n)) = true) (h6 : ieq (h (toN (itmod (wr IntKind.i64 (iadd (Int.ofNat i) (Int.ofNat s))) (Int.ofNat n)))) (h (toN (itmod (wr IntKind.i64 (iadd (Int.ofNat t) (Int.ofNat s))) (Int.ofNat n)))) = false) (h7 : ilt (h (toN (itmod (wr IntKind.i64 (iadd (Int.ofNat t) (Int.ofNat s))) (Int.ofNat n)))) (h (toN (itmod (wr IntKind.i64 (iadd (Int.ofNat i) (Int.ofNat s))) (Int.ofNat n)))) = true) (h8 : ieq (wr IntKind.i64 (iadd (Int.ofNat i) (wr IntKind.i64 (iadd (Int.ofNat s) 1)))) (Int.ofNat t) = false) : ((body102 L (st102 n h i t s j)).bind fun r => T.leaf (cutR (lp102 n h) r)).sem = some (.nm, ⟨[(.sl 1 n (fun k => (iV (h k)))), .und, .und, (iV (Int.ofNat n)), (iV (wr IntKind.i64 (iadd (Int.ofNat i) (wr IntKind.i64 (iadd (Int.ofNat s) 1))))), (iV (Int.ofNat t)), (iV 0), .und, .und, .und, .und, .und, .und, .und, .und, .und, .und, .und, .und, .und, .und, .und, .und, .und, .und, .und, .und, .und, .und, .und, .und, .und, .und, .und, .und, .und, .und, .und, .und, .und, .und, .und, .und, .und, .und, .und, .und, .und, .und, .und, .und, .und, .und, .und, .und, .und, .und, .und, .und, .und, .und, .und, .und, .und, .und, .und, .und], []⟩) := by
  exact sem_of_path (ds := [false, false, false, false, false, false, false, false, false, false, true, false, true, false, true, false]) (cs := [(ile (Int.ofNat n) (Int.ofNat i)), (ile (Int.ofNat n) (Int.ofNat i)), (ile (Int.ofNat n) (Int.ofNat i)), (ile (Int.ofNat n) (Int.ofNat i)), (ile (Int.ofNat n) (Int.ofNat t)), (ile (Int.ofNat n) (Int.ofNat t)), (ile (Int.ofNat n) (Int.ofNat t)), (ile (Int.ofNat n) (Int.ofNat t)), (ile (Int.ofNat n) (Int.ofNat s)), (ieq (Int.ofNat n) 0), (band (ile 0 (itmod (wr IntKind.i64 (iadd (Int.ofNat i) (Int.ofNat s))) (Int.ofNat n))) (ilt (itmod (wr IntKind.i64 (iadd (Int.ofNat i) (Int.ofNat s))) (Int.ofNat n)) (Int.ofNat n))), (ieq (Int.ofNat n) 0), (band (ile 0 (itmod (wr IntKind.i64 (iadd (Int.ofNat t) (Int.ofNat s))) (Int.ofNat n))) (ilt (itmod (wr IntKind.i64 (iadd (Int.ofNat t) (Int.ofNat s))) (Int.ofNat n)) (Int.ofNat n))), (ieq (h (toN (itmod (wr IntKind.i64 (iadd (Int.ofNat i) (Int.ofNat s))) (Int.ofNat n)))) (h (toN (itmod (wr IntKind.i64 (iadd (Int.ofNat t) (Int.ofNat s))) (Int.ofNat n))))), (ilt (h (toN (itmod (wr IntKind.i64 (iadd (Int.ofNat t) (Int.ofNat s))) (Int.ofNat n)))) (h (toN (itmod (wr IntKind.i64 (iadd (Int.ofNat i) (Int.ofNat s))) (Int.ofNat n))))), (ieq (wr IntKind.i64 (iadd (Int.ofNat i) (wr IntKind.i64 (iadd (Int.ofNat s) 1)))) (Int.ofNat t))]) (by kernel_rfl) (by simp only [h4, h5] <;> simp only [h0, h1, h2, h3, h6, h7, h8] <;> rfl)
theorem rl102gq (L : Nat → (St → T (Ex × St)) → St → T (Ex × St)) (n : Nat) (h : Nat → Int) (i t s : Nat)  (j : Nat → V) (h0 : ile (Int.ofNat n) (Int.ofNat i) = false) (h1 : ile (Int.ofNat n) (Int.ofNat t) = false) (h2 : ile (Int.ofNat n) (Int.ofNat s) = false) (h3 : ieq (Int.ofNat n) 0 = false) (h4 : band (ile 0 (itmod (wr IntKind.i64 (iadd (Int.ofNat i) (Int.ofNat s))) (Int.ofNat n))) (ilt (itmod (wr IntKind.i64 (iadd (Int.ofNat i) (Int.ofNat s))) (Int.ofNat n)) (Int.ofNat n)) = true) (h5 : band (ile 0 (itmod (wr IntKind.i64 (iadd (Int.ofNat t) (Int.ofNat s))) (Int.ofNat n))) (ilt (itmod (wr IntKind.i64 (iadd (Int.ofNat t) (Int.ofNat s))) (Int.ofNat n)) (Int.ofNat n)) = true) (h6 : ieq (h (toN (itmod (wr IntKind.i64 (iadd (Int.ofNat i) (Int.ofNat s))) (Int.ofNat n)))) (h (toN (itmod (wr IntKind.i64 (iadd (Int.ofNat t) (Int.ofNat s))) (Int.ofNat n)))) = false) (h7 : ilt (h (toN (itmod (wr IntKind.i64 (iadd (Int.ofNat t) (Int.ofNat s))) (Int.ofNat n)))) (h (toN (itmod (wr IntKind.i64 (iadd (Int.ofNat i) (Int.ofNat s))) (Int.ofNat n)))) = true) (h8 : ieq (wr IntKind.i64 (iadd (Int.ofNat i) (wr IntKind.i64 (iadd (Int.ofNat s) 1)))) (Int.ofNat t) = true) : ((body102 L (st102 n h i t s j)).bind fun r => T.leaf (cutR (lp102 n h) r)).sem = some (.nm, ⟨[(.sl 1 n (fun k => (iV (h k)))), .und, .und, (iV (Int.ofNat n)), (iV (wr IntKind.i64 (iadd (Int.ofNat i) (wr IntKind.i64 (iadd (Int.ofNat s) 1))))), (iV (wr IntKind.i64 (iadd (Int.ofNat t) 1))), (iV 0), .und, .und, .und, .und, .und, .und, .und, .und, .und, .und, .und, .und, .und, .und, .und, .und, .und, .und, .und, .und, .und, .und, .und, .und, .und, .und, .und, .und, .und, .und, .und, .und, .und, .und, .und, .und, .und, .und, .und, .und, .und, .und, .und, .und, .und, .und, .und, .und, .und, .und, .und, .und, .und, .und, .und, .und, .und, .und, .und, .und], []⟩) := by
  exact sem_of_path (ds := [false, false, false, false, false, false, false, false, false, false, true, false, true, false, true, true]) (cs := [(ile (Int.ofNat n) (Int.ofNat i)), (ile (Int.ofNat n) (Int.ofNat i)), (ile (Int.ofNat n) (Int.ofNat i)), (ile (Int.ofNat n) (Int.ofNat i)), (ile (Int.ofNat n) (Int.ofNat t)), (ile (Int.ofNat n) (Int.ofNat t)), (ile (Int.ofNat n) (Int.ofNat t)), (ile (Int.ofNat n) (Int.ofNat t)), (ile (Int.ofNat n) (Int.ofNat s)), (ieq (Int.ofNat n) 0), (band (ile 0 (itmod (wr IntKind.i64 (iadd (Int.ofNat i) (Int.ofNat s))) (Int.ofNat n))) (ilt (itmod (wr IntKind.i64 (iadd (Int.ofNat i) (Int.ofNat s))) (Int.ofNat n)) (Int.ofNat n))), (ieq (Int.ofNat n) 0), (band (ile 0 (itmod (wr IntKind.i64 (iadd (Int.ofNat t) (Int.ofNat s))) (Int.ofNat n))) (ilt (itmod (wr IntKind.i64 (iadd (Int.ofNat t) (Int.ofNat s))) (Int.ofNat n)) (Int.ofNat n))), (ieq (h (toN (itmod (wr IntKind.i64 (iadd (Int.ofNat i) (Int.ofNat s))) (Int.ofNat n)))) (h (toN (itmod (wr IntKind.i64 (iadd (Int.ofNat t) (Int.ofNat s))) (Int.ofNat n))))), (ilt (h (toN (itmod (wr IntKind.i64 (iadd (Int.ofNat t) (Int.ofNat s))) (Int.ofNat n)))) (h (toN (itmod (wr IntKind.i64 (iadd (Int.ofNat i) (Int.ofNat s))) (Int.ofNat n))))), (ieq (wr IntKind.i64 (iadd (Int.ofNat i) (wr IntKind.i64 (iadd (Int.ofNat s) 1)))) (Int.ofNat t))]) (by kernel_rfl) (by simp only [h4, h5] <;> simp only [h0, h1, h2, h3, h6, h7, h8] <;> rfl)
theorem rl102l (L : Nat → (St → T (Ex × St)) → St → T (Ex × St)) (n : Nat) (h : Nat → Int) (i t s : Nat)  (j : Nat → V) (h0 : ile (Int.ofNat n) (Int.ofNat i) = false) (h1 : ile (Int.ofNat n) (Int.ofNat t) = false) (h2 : ile (Int.ofNat n) (Int.ofNat s) = false) (h3 : ieq (Int.ofNat n) 0 = false) (h4 : band (ile 0 (itmod (wr IntKind.i64 (iadd (Int.ofNat i) (Int.ofNat s))) (Int.ofNat n))) (ilt (itmod (wr IntKind.i64 (iadd (Int.ofNat i) (Int.ofNat s))) (Int.ofNat n)) (Int.ofNat n)) = true) (h5 : band (ile 0 (itmod (wr IntKind.i64 (iadd (Int.ofNat t) (Int.ofNat s))) (Int.ofNat n))) (ilt (itmod (wr IntKind.i64 (iadd (Int.ofNat t) (Int.ofNat s))) (Int.ofNat n)) (Int.ofNat n)) = true) (h6 : ieq (h (toN (itmod (wr IntKind.i64 (iadd (Int.ofNat i) (Int.ofNat s))) (Int.ofNat n)))) (h (toN (itmod (wr IntKind.i64 (iadd (Int.ofNat t) (Int.ofNat s))) (Int.ofNat n)))) = false) (h7 : ilt (h (toN (itmod (wr IntKind.i64 (iadd (Int.ofNat t) (Int.ofNat s))) (Int.ofNat n)))) (h (toN (itmod (wr IntKind.i64 (iadd (Int.ofNat i) (Int.ofNat s))) (Int.ofNat n)))) = false) (h8 : ieq (Int.ofNat i) (wr IntKind.i64 (iadd (Int.ofNat t) (wr IntKind.i64 (iadd (Int.ofNat s) 1)))) = false) : ((body102 L (st102 n h i t s j)).bind fun r => T.leaf (cutR (lp102 n h) r)).sem = some (.nm, ⟨[(.sl 1 n (fun k => (iV (h k)))), .und, .und, (iV (Int.ofNat n)), (iV (Int.ofNat i)), (iV (wr IntKind.i64 (iadd (Int.ofNat t) (wr IntKind.i64 (iadd (Int.ofNat s) 1))))), (iV 0), .und, .und, .und, .und, .und, .und, .und, .und, .und, .und, .und, .und, .und, .und, .und, .und, .und, .und, .und, .und, .und, .und, .und, .und, .und, .und, .und, .und, .und, .und, .und, .und, .und, .und, .und, .und, .und, .und, .und, .und, .und, .und, .und, .und, .und, .und, .und, .und, .und, .und, .und, .und, .und, .und, .und, .und, .und, .und, .und, .und], []⟩) := by
  exact sem_of_path (ds := [false, false, false, false, false, false, false, false, false, false, true, false, true, false, false, false]) (cs := [(ile (Int.ofNat n) (Int.ofNat i)), (ile (Int.ofNat n) (Int.ofNat i)), (ile (Int.ofNat n) (Int.ofNat i)), (ile (Int.ofNat n) (Int.ofNat i)), (ile (Int.ofNat n) (Int.ofNat t)), (ile (Int.ofNat n) (Int.ofNat t)), (ile (Int.ofNat n) (Int.ofNat t)), (ile (Int.ofNat n) (Int.ofNat t)), (ile (Int.ofNat n) (Int.ofNat s)), (ieq (Int.ofNat n) 0), (band (ile 0 (itmod (wr IntKind.i64 (iadd (Int.ofNat i) (Int.ofNat s))) (Int.ofNat n))) (ilt (itmod (wr IntKind.i64 (iadd (Int.ofNat i) (Int.ofNat s))) (Int.ofNat n)) (Int.ofNat n))), (ieq (Int.ofNat n) 0), (band (ile 0 (itmod (wr IntKind.i64 (iadd (Int.ofNat t) (Int.ofNat s))) (Int.ofNat n))) (ilt (itmod (wr IntKind.i64 (iadd (Int.ofNat t) (Int.ofNat s))) (Int.ofNat n)) (Int.ofNat n))), (ieq (h (toN (itmod (wr IntKind.i64 (iadd (Int.ofNat i) (Int.ofNat s))) (Int.ofNat n)))) (h (toN (itmod (wr IntKind.i64 (iadd (Int.ofNat t) (Int.ofNat s))) (Int.ofNat n))))), (ilt (h (toN (itmod (wr IntKind.i64 (iadd (Int.ofNat t) (Int.ofNat s))) (Int.ofNat n)))) (h (toN (itmod (wr IntKind.i64 (iadd (Int.ofNat i) (Int.ofNat s))) (Int.ofNat n))))), (ieq (Int.ofNat i) (wr IntKind.i64 (iadd (Int.ofNat t) (wr IntKind.i64 (iadd (Int.ofNat s) 1)))))]) (by kernel_rfl) (by simp only [h4, h5] <;> simp only [h0, h1, h2, h3, h6, h7, h8] <;> rfl)
theorem rl102lq (L : Nat → (St → T (Ex × St)) → St → T (Ex × St)) (n : Nat) (h : Nat → Int) (i t s : Nat)  (j : Nat → V) (h0 : ile (Int.ofNat n) (Int.ofNat i) = false) (h1 : ile (Int.ofNat n) (Int.ofNat t) = false) (h2 : ile (Int.ofNat n) (Int.ofNat s) = false) (h3 : ieq (Int.ofNat n) 0 = false) (h4 : band (ile 0 (itmod (wr IntKind.i64 (iadd (Int.ofNat i) (Int.ofNat s))) (Int.ofNat n))) (ilt (itmod (wr IntKind.i64 (iadd (Int.ofNat i) (Int.ofNat s))) (Int.ofNat n)) (Int.ofNat n)) = true) (h5 : band (ile 0 (itmod (wr IntKind.i64 (iadd (Int.ofNat t) (Int.ofNat s))) (Int.ofNat n))) (ilt (itmod (wr IntKind.i64 (iadd (Int.ofNat t) (Int.ofNat s))) (Int.ofNat n)) (Int.ofNat n)) = true) (h6 : ieq (h (toN (itmod (wr IntKind.i64 (iadd (Int.ofNat i) (Int.ofNat s))) (Int.ofNat n)))) (h (toN (itmod (wr IntKind.i64 (iadd (Int.ofNat t) (Int.ofNat s))) (Int.ofNat n)))) = false) (h7 : ilt (h (toN (itmod (wr IntKind.i64 (iadd (Int.ofNat t) (Int.ofNat s))) (Int.ofNat n)))) (h (toN (itmod (wr IntKind.i64 (iadd (Int.ofNat i) (Int.ofNat s))) (Int.ofNat n)))) = false) (h8 : ieq (Int.ofNat i) (wr IntKind.i64 (iadd (Int.ofNat t) (wr IntKind.i64 (iadd (Int.ofNat s) 1)))) = true) : ((body102 L (st102 n h i t s j)).bind fun r => T.leaf (cutR (lp102 n h) r)).sem = some (.nm, ⟨[(.sl 1 n (fun k => (iV (h k)))), .und, .und, (iV (Int.ofNat n)), (iV (Int.ofNat i)), (iV (wr IntKind.i64 (iadd (wr IntKind.i64 (iadd (Int.ofNat t) (wr IntKind.i64 (iadd (Int.ofNat s) 1)))) 1))), (iV 0), .und, .und, .und, .und, .und, .und, .und, .und, .und, .und, .und, .und, .und, .und, .und, .und, .und, .und, .und, .und, .und, .und, .und, .und, .und, .und, .und, .und, .und, .und, .und, .und, .und, .und, .und, .und, .und, .und, .und, .und, .und, .und, .und, .und, .und, .und, .und, .und, .und, .und, .und, .und, .und, .und, .und, .und, .und, .und, .und, .und], []⟩) := by
  exact sem_of_path (ds := [false, false, false, false, false, false, false, false, false, false, true, false, true, false, false, true]) (cs := [(ile (Int.ofNat n) (Int.ofNat i)), (ile (Int.ofNat n) (Int.ofNat i)), (ile (Int.ofNat n) (Int.ofNat i)), (ile (Int.ofNat n) (Int.ofNat i)), (ile (Int.ofNat n) (Int.ofNat t)), (ile (Int.ofNat n) (Int.ofNat t)), (ile (Int.ofNat n) (Int.ofNat t)), (ile (Int.ofNat n) (Int.ofNat t)), (ile (Int.ofNat n) (Int.ofNat s)), (ieq (Int.ofNat n) 0), (band (ile 0 (itmod (wr IntKind.i64 (iadd (Int.ofNat i) (Int.ofNat s))) (Int.ofNat n))) (ilt (itmod (wr IntKind.i64 (iadd (Int.ofNat i) (Int.ofNat s))) (Int.ofNat n)) (Int.ofNat n))), (ieq (Int.ofNat n) 0), (band (ile 0 (itmod (wr IntKind.i64 (iadd (Int.ofNat t) (Int.ofNat s))) (Int.ofNat n))) (ilt (itmod (wr IntKind.i64 (iadd (Int.ofNat t) (Int.ofNat s))) (Int.ofNat n)) (Int.ofNat n))), (ieq (h (toN (itmod (wr IntKind.i64 (iadd (Int.ofNat i) (Int.ofNat s))) (Int.ofNat n)))) (h (toN (itmod (wr IntKind.i64 (iadd (Int.ofNat t) (Int.ofNat s))) (Int.ofNat n))))), (ilt (h (toN (itmod (wr IntKind.i64 (iadd (Int.ofNat t) (Int.ofNat s))) (Int.ofNat n)))) (h (toN (itmod (wr IntKind.i64 (iadd (Int.ofNat i) (Int.ofNat s))) (Int.ofNat n))))), (ieq (Int.ofNat i) (wr IntKind.i64 (iadd (Int.ofNat t) (wr IntKind.i64 (iadd (Int.ofNat s) 1)))))]) (by kernel_rfl) (by simp only [h4, h5] <;> simp only [h0, h1, h2, h3, h6, h7, h8] <;> rfl)
def jk102 (n : Nat) (h : Nat → Int)  : Nat → V
  | 2 => (iV 0)
  | 9 => (.sl 1 n (fun k => (iV (h k))))
  | 10 => (iV (Int.ofNat n))
  | _ => undefV

theorem wc102 (L : Nat → (St → T (Ex × St)) → St → T (Ex × St)) (p0 : (St → T (Ex × St)) → St → Bool) (n : Nat) (h : Nat → Int) (r : Nat)  (hp0 : p0 (body102 (onP 0 p0 (fin102 r) L)) (st102 n h 0 1 0 (jk102 n h )) = true) : (finF (evalF tab ⟨callT tb0, (onP 0 p0 (fin102 r) L), Gl⟩ (gotoF 0 900 Tryz.f51) [.sl 1 n (fun k => iV (h k))] [])).sem = some ((iV (Int.ofNat r)), []) := by
  exact sem_of_path (ds := [true]) (cs := [(p0 (body102 (onP 0 p0 (fin102 r) L)) (st102 n h 0 1 0 (jk102 n h )))]) (by kernel_rfl) (by simp only [hp0] <;> rfl)

/-- Where the least turned list begins, pass by pass. -/
def leastG (n : Nat) (h : Nat → Int) : Nat → Nat → Nat → Nat → Nat
  | 0, _, _, _ => 0
  | q + 1, i, t, s =>
    if n ≤ i ∨ n ≤ t ∨ n ≤ s then min (min i t) (n - 1)
    else if h ((i + s) % n) = h ((t + s) % n) then leastG n h q i t (s + 1)
    else if h ((t + s) % n) < h ((i + s) % n) then leastG n h q (i + s + 1) (if i + s + 1 = t then t + 1 else t) 0
    else leastG n h q i (if i = t + s + 1 then t + s + 2 else t + s + 1) 0

def leastN (n : Nat) (h : Nat → Int) : Nat := leastG n h (3 * n + 4) 0 1 0

theorem wr_add {a b : Nat} (h : a + b ≤ 9223372036854775807) : wr .i64 (iadd (Int.ofNat a) (Int.ofNat b)) = Int.ofNat (a + b) := by
  unfold wr iadd IntKind.wrap
  simp [IntKind.bits, IntKind.signed]
  omega

theorem wr_one {a : Nat} (h : a + 1 ≤ 9223372036854775807) : wr .i64 (iadd (Int.ofNat a) 1) = Int.ofNat (a + 1) := wr_add (b := 1) h

theorem mod_nat (a n : Nat) : itmod (Int.ofNat a) (Int.ofNat n) = Int.ofNat (a % n) := rfl

theorem ieq_nat (a b : Nat) : ieq (Int.ofNat a) (Int.ofNat b) = decide (a = b) := by
  simp only [ieq, Int.ofNat_eq_natCast]
  by_cases h : a = b
  · simp [h]
  · rw [decide_eq_false h]
    simp
    omega

theorem ile_nat (a b : Nat) : ile (Int.ofNat a) (Int.ofNat b) = decide (a ≤ b) := by
  simp [ile]

theorem ilt_nat (a b : Nat) : ilt (Int.ofNat a) (Int.ofNat b) = decide (a < b) := by
  simp [ilt]

theorem min3 (n i t : Nat) (hn : n ≤ 1152921504606846976) : sel (ilt (sel (ilt (wr IntKind.i64 (isub (Int.ofNat n) 1)) 0) 0 (wr IntKind.i64 (isub (Int.ofNat n) 1))) (sel (ilt (Int.ofNat t) (Int.ofNat i)) (Int.ofNat t) (Int.ofNat i))) (sel (ilt (wr IntKind.i64 (isub (Int.ofNat n) 1)) 0) 0 (wr IntKind.i64 (isub (Int.ofNat n) 1))) (sel (ilt (Int.ofNat t) (Int.ofNat i)) (Int.ofNat t) (Int.ofNat i)) = Int.ofNat (min (min i t) (n - 1)) := by
  have h1 : wr IntKind.i64 (isub (Int.ofNat n) 1) = (n : Int) - 1 := by
    unfold wr isub IntKind.wrap
    simp [IntKind.bits, IntKind.signed]
    omega
  rw [h1]
  simp only [sel, ilt, Bool.cond_decide, Int.ofNat_eq_natCast]
  omega

theorem run102 (L : Nat → (St → T (Ex × St)) → St → T (Ex × St)) (n : Nat) (h : Nat → Int) (hn : n ≤ 1152921504606846976) : ∀ (q i t s : Nat) (j : Nat → V), i ≤ 2 * n → t ≤ 2 * n + 1 → s ≤ n → 3 * n + 1 - (i + t + s) < q →
    (iterT (body102 L) (lp102 n h) q (st102 n h i t s j)).sem = some (fin102 (leastG n h q i t s))
  | 0, _, _, _, _, _, _, _, h4 => absurd h4 (Nat.not_lt_zero _)
  | q + 1, i, t, s, j, hi, ht, hs, h4 => by
    by_cases ci : n ≤ i
    · rw [iter_round (rl102i L n h i t s j (by rw [ile_nat, decide_eq_true ci])), goOn_rt, min3 n i t hn, leastG, if_pos (.inl ci)]
      rfl
    · have ci0 : ile (Int.ofNat n) (Int.ofNat i) = false := by rw [ile_nat, decide_eq_false ci]
      by_cases ct : n ≤ t
      · rw [iter_round (rl102j L n h i t s j ci0 (by rw [ile_nat, decide_eq_true ct])), goOn_rt, min3 n i t hn, leastG, if_pos (.inr (.inl ct))]
        rfl
      · have ct0 : ile (Int.ofNat n) (Int.ofNat t) = false := by rw [ile_nat, decide_eq_false ct]
        by_cases cs : n ≤ s
        · rw [iter_round (rl102s L n h i t s j ci0 ct0 (by rw [ile_nat, decide_eq_true cs])), goOn_rt, min3 n i t hn, leastG, if_pos (.inr (.inr cs))]
          rfl
        · have cs0 : ile (Int.ofNat n) (Int.ofNat s) = false := by rw [ile_nat, decide_eq_false cs]
          have cn0 : ieq (Int.ofNat n) 0 = false := by
            rw [show (0 : Int) = Int.ofNat 0 from rfl, ieq_nat, decide_eq_false (by omega)]
          have e1 : itmod (wr IntKind.i64 (iadd (Int.ofNat i) (Int.ofNat s))) (Int.ofNat n) = Int.ofNat ((i + s) % n) := by rw [wr_add (by omega), mod_nat]
          have e2 : itmod (wr IntKind.i64 (iadd (Int.ofNat t) (Int.ofNat s))) (Int.ofNat n) = Int.ofNat ((t + s) % n) := by rw [wr_add (by omega), mod_nat]
          have b1 : band (ile 0 (itmod (wr IntKind.i64 (iadd (Int.ofNat i) (Int.ofNat s))) (Int.ofNat n))) (ilt (itmod (wr IntKind.i64 (iadd (Int.ofNat i) (Int.ofNat s))) (Int.ofNat n)) (Int.ofNat n)) = true := by
            rw [e1]; exact ofNat_in (Nat.mod_lt _ (by omega))
          have b2 : band (ile 0 (itmod (wr IntKind.i64 (iadd (Int.ofNat t) (Int.ofNat s))) (Int.ofNat n))) (ilt (itmod (wr IntKind.i64 (iadd (Int.ofNat t) (Int.ofNat s))) (Int.ofNat n)) (Int.ofNat n)) = true := by
            rw [e2]; exact ofNat_in (Nat.mod_lt _ (by omega))
          have t1 : ∀ a : Nat, toN (Int.ofNat a) = a := fun _ => rfl
          have u1 : wr IntKind.i64 (iadd (Int.ofNat i) (wr IntKind.i64 (iadd (Int.ofNat s) 1))) = Int.ofNat (i + s + 1) := by rw [wr_one (by omega), wr_add (by omega)]; rfl
          have u2 : wr IntKind.i64 (iadd (Int.ofNat t) (wr IntKind.i64 (iadd (Int.ofNat s) 1))) = Int.ofNat (t + s + 1) := by rw [wr_one (by omega), wr_add (by omega)]; rfl
          rw [leastG, if_neg (by omega)]
          by_cases ce : h ((i + s) % n) = h ((t + s) % n)
          · rw [if_pos ce, iter_round (rl102e L n h i t s j ci0 ct0 cs0 cn0 b1 b2 (by rw [e1, e2, t1, t1]; simp [ieq, ce])), goOn_nm, wr_one (by omega)]
            exact run102 L n h hn q i t (s + 1) (fun _ => .und) hi ht (by omega) (by omega)
          · have ce0 : ieq (h (toN (itmod (wr IntKind.i64 (iadd (Int.ofNat i) (Int.ofNat s))) (Int.ofNat n)))) (h (toN (itmod (wr IntKind.i64 (iadd (Int.ofNat t) (Int.ofNat s))) (Int.ofNat n)))) = false := by
              rw [e1, e2, t1, t1]; simp [ieq, ce]
            rw [if_neg ce]
            by_cases cg : h ((t + s) % n) < h ((i + s) % n)
            · have cg0 : ilt (h (toN (itmod (wr IntKind.i64 (iadd (Int.ofNat t) (Int.ofNat s))) (Int.ofNat n)))) (h (toN (itmod (wr IntKind.i64 (iadd (Int.ofNat i) (Int.ofNat s))) (Int.ofNat n)))) = true := by
                rw [e1, e2, t1, t1]; simp [ilt, cg]
              rw [if_pos cg]
              by_cases cq : i + s + 1 = t
              · rw [if_pos cq, iter_round (rl102gq L n h i t s j ci0 ct0 cs0 cn0 b1 b2 ce0 cg0 (by rw [u1, ieq_nat, decide_eq_true cq])), goOn_nm, u1, wr_one (by omega)]
                exact run102 L n h hn q (i + s + 1) (t + 1) 0 (fun _ => .und) (by omega) (by omega) (by omega) (by omega)
              · rw [if_neg cq, iter_round (rl102g L n h i t s j ci0 ct0 cs0 cn0 b1 b2 ce0 cg0 (by rw [u1, ieq_nat, decide_eq_false cq])), goOn_nm, u1]
                exact run102 L n h hn q (i + s + 1) t 0 (fun _ => .und) (by omega) (by omega) (by omega) (by omega)
            · have cg0 : ilt (h (toN (itmod (wr IntKind.i64 (iadd (Int.ofNat t) (Int.ofNat s))) (Int.ofNat n)))) (h (toN (itmod (wr IntKind.i64 (iadd (Int.ofNat i) (Int.ofNat s))) (Int.ofNat n)))) = false := by
                rw [e1, e2, t1, t1]; simp [ilt]; omega
              rw [if_neg cg]
              by_cases cq : i = t + s + 1
              · rw [if_pos cq, iter_round (rl102lq L n h i t s j ci0 ct0 cs0 cn0 b1 b2 ce0 cg0 (by rw [u2, ieq_nat, decide_eq_true cq])), goOn_nm, u2, wr_one (by omega)]
                exact run102 L n h hn q i (t + s + 2) 0 (fun _ => .und) (by omega) (by omega) (by omega) (by omega)
              · rw [if_neg cq, iter_round (rl102l L n h i t s j ci0 ct0 cs0 cn0 b1 b2 ce0 cg0 (by rw [u2, ieq_nat, decide_eq_false cq])), goOn_nm, u2]
                exact run102 L n h hn q i (t + s + 1) 0 (fun _ => .und) (by omega) (by omega) (by omega) (by omega)

def fitL (n : Nat) : Bool := decide (n ≤ 1152921504606846976)
def leastT : List V → T (V × List Blk) := apI1 fun n h => .br (fitL n) (out (iV (Int.ofNat (leastN n h)))) .fail

theorem p102 : PureC Tryz.prog Gl 51 leastT := by
  refine pureG_intro (p := match Tryz.f51.body with | some (.seq p _) => p | _ => .skip) (c := match Tryz.f51.body with | some (.seq _ (.scope c)) => c | _ => .skip) (d := match (match Tryz.f51.body with | some (.seq _ (.scope c)) => behindL 0 c | _ => none) with | some d => d | none => .skip) tabOK mixed Tryz.func51 0 900 (by kernel_rfl) (by kernel_rfl) (by kernel_rfl) (by kernel_rfl) fun vs v h' h => ?_
  obtain ⟨n, f, ha, h1⟩ := apI1_some h
  obtain ⟨hn, hq⟩ := sem_br_fail h1
  have := sem_leaf hq
  simp only [Prod.mk.injEq] at this
  obtain ⟨rfl, rfl⟩ := this
  have hn : n ≤ 1152921504606846976 := by simpa [fitL] using hn
  have hx := cx_ok tb0_ok [(0, lp102 n f)]
  exact ⟨_, cxOf Gl tb0 [(0, lp102 n f)], _, ha, rfl, hx.1, hx.2, told_le (onP_le (loopsBy_le _) (loopsBy_le _)) _ (wc102 _ _ n f _ (isP_true (run102 _ n f hn (3 * n + 4) 0 1 0 (jk102 n f) (by omega) (by omega) (by omega) (by omega)))), RowsLE.refl _⟩

end Go.Proofs.YtkcbdemfmjciiaaGreatDoor.Ed




