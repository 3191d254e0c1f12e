/-
  Names behind one another, a '+' ahead of each: parted by blanks they are read as the edges again. No program.
-/
import Derived.Test.YtkcbdemfmjciiaaDoorFaJa
namespace Go.Proofs.YtkcbdemfmjciiaaDoor.Ed
open Go.Sy
set_option maxRecDepth 100000

def nameC (c : UInt8) : Bool := (decide (97 ≤ c) && decide (c ≤ 122)) || (decide (65 ≤ c) && decide (c ≤ 90)) || (decide (48 ≤ c) && decide (c ≤ 57)) || c == 46
theorem names_chars : (List.range 112).all (fun k => (nameS k).all nameC) = true := by kernel_rfl
theorem name_chars {e : E6} (h : codeF e = 0) : ∀ c ∈ nameF e, nameC c = true := by
  rcases codeF_cases e with ⟨k, hk, _, _, _, h3⟩ | ⟨h1, _⟩
  · intro c hc
    rw [h3] at hc
    exact List.all_eq_true.1 (List.all_eq_true.1 names_chars k (List.mem_range.2 hk)) c hc
  · rw [h] at h1; cases h1

/-- Names behind one another, each behind a '+'. -/
def plusT : List E6 → List UInt8
  | [] => []
  | e :: es => 43 :: (nameF e ++ plusT es)
theorem plusT_app : ∀ (xs ys : List E6), plusT (xs ++ ys) = plusT xs ++ plusT ys
  | [], _ => rfl
  | x :: xs, ys => by simp only [List.cons_append, plusT, plusT_app xs ys, List.append_assoc]
/-- A '+' becomes a blank. -/
def unp (s : List UInt8) : List UInt8 := s.map fun c => if c = 43 then 32 else c
theorem unp_app (s t : List UInt8) : unp (s ++ t) = unp s ++ unp t := List.map_append
theorem unp_cons (c : UInt8) (t : List UInt8) : unp (c :: t) = (if c = 43 then 32 else c) :: unp t := rfl
theorem unp_id {s : List UInt8} (h : ∀ c ∈ s, nameC c = true) : unp s = s := by
  refine (List.map_congr_left fun c hc => ?_).trans (List.map_id s)
  show (if c = 43 then 32 else c) = c
  rw [if_neg]
  intro e
  have := h c hc
  rw [e] at this
  exact absurd this (by decide)
theorem unp_plus : ∀ (es : List E6), (∀ e ∈ es, codeF e = 0) → unp (plusT es) = tailT es
  | [], _ => rfl
  | e :: es, h => by
    rw [plusT, unp_cons, unp_app, unp_id (name_chars (h e (List.mem_cons_self ..))), unp_plus es fun d hd => h d (List.mem_cons_of_mem _ hd)]
    rfl
theorem unp_len (s : List UInt8) : (unp s).length = s.length := List.length_map ..
theorem psR_plus (e : E6) (es : List E6) (h : ∀ d ∈ e :: es, codeF d = 0) : psR (unp (nameF e ++ plusT es)) = (e :: es, 0, 0) := by
  rw [unp_app, unp_id (name_chars (h e (List.mem_cons_self ..))), unp_plus es fun d hd => h d (List.mem_cons_of_mem _ hd)]
  exact parse_text e es h _ 0 (Nat.lt_succ_self _)
theorem plus_chars : ∀ (es : List E6), (∀ e ∈ es, codeF e = 0) → ∀ c ∈ plusT es, (nameC c || c == 43) = true
  | [], _, c, hc => by cases hc
  | e :: es, h, c, hc => by
    rw [plusT, List.mem_cons, List.mem_append] at hc
    rcases hc with rfl | hc | hc
    · rfl
    · rw [name_chars (h e (List.mem_cons_self ..)) c hc]; rfl
    · exact plus_chars es (fun d hd => h d (List.mem_cons_of_mem _ hd)) c hc

/-- Texts that part before either ends. -/
def diffB : List UInt8 → List UInt8 → Bool
  | x :: a, y :: b => if x = y then diffB a b else true
  | _, _ => false
theorem diff_not : ∀ (a b r : List UInt8), diffB a b = true → ¬ a <+: b ++ r
  | [], _, _, h => by cases h
  | _ :: _, [], _, h => by cases h
  | x :: a, y :: b, r, h => by
    intro hp
    rw [List.cons_append, List.cons_prefix_cons] at hp
    obtain ⟨rfl, hp⟩ := hp
    rw [diffB, if_pos rfl] at h
    exact diff_not a b r h hp

/-- What stands behind a beginning. -/
def cutP : List UInt8 → List UInt8 → Option (List UInt8)
  | [], s => some s
  | x :: a, y :: s => if x = y then cutP a s else none
  | _ :: _, [] => none
theorem cutP_app : ∀ (a r : List UInt8), cutP a (a ++ r) = some r
  | [], _ => rfl
  | x :: a, r => by rw [List.cons_append, cutP, if_pos rfl, cutP_app a r]
theorem cutP_some : ∀ {a s r : List UInt8}, cutP a s = some r → s = a ++ r
  | [], s, r, h => by rw [cutP, Option.some.injEq] at h; exact h
  | x :: a, [], r, h => by cases h
  | x :: a, y :: s, r, h => by
    rw [cutP] at h
    split at h
    · rename_i e
      rw [e, List.cons_append, cutP_some h]
    · cases h
theorem cutP_none {a b r : List UInt8} (h : diffB a b = true) : cutP a (b ++ r) = none := by
  cases hc : cutP a (b ++ r) with
  | none => rfl
  | some t => exact absurd ⟨t, (cutP_some hc).symm⟩ (diff_not a b r h)

/-- A row of edges as a list. -/
def lsE (n : Nat) (f : Nat → E6) : List E6 := (List.range n).map f
theorem lsE_succ (n : Nat) (f : Nat → E6) : lsE (n + 1) f = lsE n f ++ [f n] := by simp [lsE, List.range_succ]
theorem lsE_len (n : Nat) (f : Nat → E6) : (lsE n f).length = n := by simp [lsE]
theorem lsE_get {n i : Nat} {f : Nat → E6} (h : i < n) : getE (lsE n f) i = f i := by
  simp [getE, lsE, List.getD, h]
theorem lsE_may {n : Nat} {f : Nat → E6} (h : mayN n f = true) : ∀ e ∈ lsE n f, codeF e = 0 := by
  intro e he
  obtain ⟨i, hi, rfl⟩ := List.mem_map.1 he
  exact mayN_iff.1 h i (List.mem_range.1 hi)
theorem lsE_cons (n : Nat) (f : Nat → E6) : lsE (n + 1) f = f 0 :: (List.range n).map fun i => f (i + 1) := by
  simp [lsE, List.range_succ_eq_map, Function.comp_def]

/-- What is read behind a beginning that fits. -/
theorem ps_plus {n : Nat} {f : Nat → E6} (h0 : 0 < n) (h : mayN n f = true) {r : List UInt8} (hr : plusT (lsE n f) = 43 :: r) (hl : r.length ≤ 262144) :
    psE (unp r) = 0 ∧ psN (unp r) = n ∧ ∀ i, i < n → psG (unp r) i = f i := by
  obtain ⟨m, rfl⟩ : ∃ m, n = m + 1 := ⟨n - 1, by omega⟩
  have hm := lsE_may h
  rw [lsE_cons] at hr hm
  rw [plusT, List.cons.injEq] at hr
  have hp := psR_plus (f 0) _ hm
  rw [hr.2] at hp
  have hb : bigS (unp r) = false := by
    unfold bigS slen
    rw [unp_len, show (262144 : Int) = Int.ofNat 262144 from rfl, ilt_nat]
    exact decide_eq_false (by omega)
  have hL : psL (unp r) = lsE (m + 1) f := by
    unfold psL
    rw [hb, hp, lsE_cons]
    rfl
  refine ⟨?_, ?_, fun i hi => ?_⟩
  · unfold psE
    rw [hb, hp]
    rfl
  · unfold psN
    rw [hL, lsE_len]
  · unfold psG
    rw [hL, lsE_get hi]

#print axioms ps_plus
end Go.Proofs.YtkcbdemfmjciiaaDoor.Ed
