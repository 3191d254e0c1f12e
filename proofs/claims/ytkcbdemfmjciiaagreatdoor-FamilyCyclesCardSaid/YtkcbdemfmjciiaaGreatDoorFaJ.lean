/-
  Names behind one another, a '+' ahead of each: parted by blanks they are read as the edges again. No program.
-/
import Derived.Test.YtkcbdemfmjciiaaGreatDoorCyZp
namespace Go.Proofs.YtkcbdemfmjciiaaGreatDoor.Ed
open Go.Sy
set_option maxRecDepth 100000

theorem names_ok : (List.range 112).all (fun k => !(nameS k).isEmpty && (nameS k).all (fun c => !blankC c) && (ieq (parseF (nameS k)) 0 && (eqE (parseE (nameS k)) (madeE k) && (ieq (codeF (madeE k)) 0 && seq (nameF (madeE k)) (nameS k))))) = true := by kernel_rfl

theorem name_facts {e : E6} (h : codeF e = 0) : nameF e ≠ [] ∧ (∀ c ∈ nameF e, blankC c = false) ∧ parseF (nameF e) = 0 ∧ parseE (nameF e) = e := by
  rcases codeF_cases e with ⟨k, hk, _, _, h2, h3⟩ | ⟨h1, _⟩
  · have := List.all_eq_true.1 names_ok k (List.mem_range.2 hk)
    simp only [Bool.and_eq_true] at this
    obtain ⟨⟨n1, n2⟩, n3, n4, _, _⟩ := this
    rw [h3]
    refine ⟨fun e0 => ?_, fun c hc => ?_, ieq_eq n3, ?_⟩
    · rw [e0] at n1; cases n1
    · have := List.all_eq_true.1 n2 c hc
      simpa using this
    · rw [(eqE_iff _ _).1 n4, h2]
  · rw [h] at h1; cases h1

def endsB : List UInt8 → Bool
  | [] => true
  | c :: _ => blankC c

theorem wordL_app {w r : List UInt8} (hw : ∀ c ∈ w, blankC c = false) (hr : endsB r = true) : wordL (w ++ r) = w := by
  induction w with
  | nil =>
    cases r with
    | nil => rfl
    | cons c r =>
      show List.takeWhile _ (c :: r) = []
      have : blankC c = true := hr
      simp [List.takeWhile, this]
  | cons c w ih =>
    have hc : blankC c = false := hw c (List.mem_cons_self ..)
    have := ih fun d hd => hw d (List.mem_cons_of_mem _ hd)
    unfold wordL at this ⊢
    rw [List.cons_append, List.takeWhile_cons_of_pos (by simp [hc]), this]

theorem parse_word {w r : List UInt8} (hw : ∀ c ∈ w, blankC c = false) (h0 : w ≠ []) (hr : endsB r = true) (hp : parseF w = 0) (q a : Nat) (acc : List E6) :
    parseL (q + 1) (w ++ r) a acc = parseL q r (a + w.length) (acc ++ [parseE w]) := by
  have h1 := wordL_app hw hr
  cases w with
  | nil => exact absurd rfl h0
  | cons c w =>
    have hc : blankC c = false := hw c (List.mem_cons_self ..)
    rw [List.cons_append] at h1 ⊢
    rw [parseL, if_neg (by rw [hc]; decide), h1, if_pos hp]
    rw [← List.cons_append, List.drop_left]

theorem parse_nil (q a : Nat) (acc : List E6) : parseL q [] a acc = (acc, 0, 0) := by cases q <;> rfl

def tailT : List E6 → List UInt8
  | [] => []
  | e :: es => 32 :: (nameF e ++ tailT es)

theorem tail_ends (es : List E6) : endsB (tailT es) = true := by cases es <;> rfl

theorem parse_tail : ∀ (es : List E6) (q a : Nat) (acc : List E6), (∀ e ∈ es, codeF e = 0) → (tailT es).length < q → parseL q (tailT es) a acc = (acc ++ es, 0, 0)
  | [], q, a, acc, _, _ => by rw [tailT, parse_nil, List.append_nil]
  | e :: es, q, a, acc, h, hq => by
    obtain ⟨n0, n1, n2, n3⟩ := name_facts (h e (List.mem_cons_self ..))
    have hl : 0 < (nameF e).length := List.length_pos_iff.2 n0
    simp only [tailT, List.length_cons, List.length_append] at hq
    obtain ⟨q, rfl⟩ : ∃ p, q = p + 2 := ⟨q - 2, by omega⟩
    rw [tailT, parse_blank (by decide), parse_word n1 n0 (tail_ends es) n2, n3, parse_tail es q _ _ (fun d hd => h d (List.mem_cons_of_mem _ hd)) (by omega)]
    simp

theorem parse_text (e : E6) (es : List E6) (h : ∀ d ∈ e :: es, codeF d = 0) (q a : Nat) (hq : (nameF e ++ tailT es).length < q) : parseL q (nameF e ++ tailT es) a [] = (e :: es, 0, 0) := by
  obtain ⟨n0, n1, n2, n3⟩ := name_facts (h e (List.mem_cons_self ..))
  have hl : 0 < (nameF e).length := List.length_pos_iff.2 n0
  rw [List.length_append] at hq
  obtain ⟨q, rfl⟩ : ∃ p, q = p + 1 := ⟨q - 1, by omega⟩
  rw [parse_word n1 n0 (tail_ends es) n2, n3, parse_tail es q _ _ (fun d hd => h d (List.mem_cons_of_mem _ hd)) (by omega)]
  rfl


end Go.Proofs.YtkcbdemfmjciiaaGreatDoor.Ed


namespace Go.Proofs.YtkcbdemfmjciiaaGreatDoor.Ed
open Go.Sy
set_option maxRecDepth 100000

def nameC (c : UInt8) : Bool := (decide (97 ≤ c) && decide (c ≤ 122)) || (decide (65 ≤ c) && decide (c ≤ 90)) || (decide (48 ≤ c) && decide (c ≤ 57)) || c == 46
theorem names_chars : (List.range 112).all (fun k => (nameS k).all nameC) = true := by kernel_rfl
theorem name_chars {e : E6} (h : codeF e = 0) : ∀ c ∈ nameF e, nameC c = true := by
  rcases codeF_cases e with ⟨k, hk, _, _, _, h3⟩ | ⟨h1, _⟩
  · intro c hc
    rw [h3] at hc
    exact List.all_eq_true.1 (List.all_eq_true.1 names_chars k (List.mem_range.2 hk)) c hc
  · rw [h] at h1; cases h1

/-- Names behind one another, each behind a '+'. -/
def plusT : List E6 → List UInt8
  | [] => []
  | e :: es => 43 :: (nameF e ++ plusT es)
theorem plusT_app : ∀ (xs ys : List E6), plusT (xs ++ ys) = plusT xs ++ plusT ys
  | [], _ => rfl
  | x :: xs, ys => by simp only [List.cons_append, plusT, plusT_app xs ys, List.append_assoc]
/-- A '+' becomes a blank. -/
def unp (s : List UInt8) : List UInt8 := s.map fun c => if c = 43 then 32 else c
theorem unp_app (s t : List UInt8) : unp (s ++ t) = unp s ++ unp t := List.map_append
theorem unp_cons (c : UInt8) (t : List UInt8) : unp (c :: t) = (if c = 43 then 32 else c) :: unp t := rfl
theorem unp_id {s : List UInt8} (h : ∀ c ∈ s, nameC c = true) : unp s = s := by
  refine (List.map_congr_left fun c hc => ?_).trans (List.map_id s)
  show (if c = 43 then 32 else c) = c
  rw [if_neg]
  intro e
  have := h c hc
  rw [e] at this
  exact absurd this (by decide)
theorem unp_plus : ∀ (es : List E6), (∀ e ∈ es, codeF e = 0) → unp (plusT es) = tailT es
  | [], _ => rfl
  | e :: es, h => by
    rw [plusT, unp_cons, unp_app, unp_id (name_chars (h e (List.mem_cons_self ..))), unp_plus es fun d hd => h d (List.mem_cons_of_mem _ hd)]
    rfl
theorem unp_len (s : List UInt8) : (unp s).length = s.length := List.length_map ..
theorem psR_plus (e : E6) (es : List E6) (h : ∀ d ∈ e :: es, codeF d = 0) : psR (unp (nameF e ++ plusT es)) = (e :: es, 0, 0) := by
  rw [unp_app, unp_id (name_chars (h e (List.mem_cons_self ..))), unp_plus es fun d hd => h d (List.mem_cons_of_mem _ hd)]
  exact parse_text e es h _ 0 (Nat.lt_succ_self _)
theorem plus_chars : ∀ (es : List E6), (∀ e ∈ es, codeF e = 0) → ∀ c ∈ plusT es, (nameC c || c == 43) = true
  | [], _, c, hc => by cases hc
  | e :: es, h, c, hc => by
    rw [plusT, List.mem_cons, List.mem_append] at hc
    rcases hc with rfl | hc | hc
    · rfl
    · rw [name_chars (h e (List.mem_cons_self ..)) c hc]; rfl
    · exact plus_chars es (fun d hd => h d (List.mem_cons_of_mem _ hd)) c hc

/-- Texts that part before either ends. -/
def diffB : List UInt8 → List UInt8 → Bool
  | x :: a, y :: b => if x = y then diffB a b else true
  | _, _ => false
theorem diff_not : ∀ (a b r : List UInt8), diffB a b = true → ¬ a <+: b ++ r
  | [], _, _, h => by cases h
  | _ :: _, [], _, h => by cases h
  | x :: a, y :: b, r, h => by
    intro hp
    rw [List.cons_append, List.cons_prefix_cons] at hp
    obtain ⟨rfl, hp⟩ := hp
    rw [diffB, if_pos rfl] at h
    exact diff_not a b r h hp

/-- What stands behind a beginning. -/
def cutP : List UInt8 → List UInt8 → Option (List UInt8)
  | [], s => some s
  | x :: a, y :: s => if x = y then cutP a s else none
  | _ :: _, [] => none
theorem cutP_app : ∀ (a r : List UInt8), cutP a (a ++ r) = some r
  | [], _ => rfl
  | x :: a, r => by rw [List.cons_append, cutP, if_pos rfl, cutP_app a r]
theorem cutP_some : ∀ {a s r : List UInt8}, cutP a s = some r → s = a ++ r
  | [], s, r, h => by rw [cutP, Option.some.injEq] at h; exact h
  | x :: a, [], r, h => by cases h
  | x :: a, y :: s, r, h => by
    rw [cutP] at h
    split at h
    · rename_i e
      rw [e, List.cons_append, cutP_some h]
    · cases h
theorem cutP_none {a b r : List UInt8} (h : diffB a b = true) : cutP a (b ++ r) = none := by
  cases hc : cutP a (b ++ r) with
  | none => rfl
  | some t => exact absurd ⟨t, (cutP_some hc).symm⟩ (diff_not a b r h)

/-- A row of edges as a list. -/
def lsE (n : Nat) (f : Nat → E6) : List E6 := (List.range n).map f
theorem lsE_succ (n : Nat) (f : Nat → E6) : lsE (n + 1) f = lsE n f ++ [f n] := by simp [lsE, List.range_succ]
theorem lsE_len (n : Nat) (f : Nat → E6) : (lsE n f).length = n := by simp [lsE]
theorem lsE_get {n i : Nat} {f : Nat → E6} (h : i < n) : getE (lsE n f) i = f i := by
  simp [getE, lsE, List.getD, h]
theorem lsE_may {n : Nat} {f : Nat → E6} (h : mayN n f = true) : ∀ e ∈ lsE n f, codeF e = 0 := by
  intro e he
  obtain ⟨i, hi, rfl⟩ := List.mem_map.1 he
  exact mayN_iff.1 h i (List.mem_range.1 hi)
theorem lsE_cons (n : Nat) (f : Nat → E6) : lsE (n + 1) f = f 0 :: (List.range n).map fun i => f (i + 1) := by
  simp [lsE, List.range_succ_eq_map, Function.comp_def]

/-- What is read behind a beginning that fits. -/
theorem ps_plus {n : Nat} {f : Nat → E6} (h0 : 0 < n) (h : mayN n f = true) {r : List UInt8} (hr : plusT (lsE n f) = 43 :: r) (hl : r.length ≤ 262144) :
    psE (unp r) = 0 ∧ psN (unp r) = n ∧ ∀ i, i < n → psG (unp r) i = f i := by
  obtain ⟨m, rfl⟩ : ∃ m, n = m + 1 := ⟨n - 1, by omega⟩
  have hm := lsE_may h
  rw [lsE_cons] at hr hm
  rw [plusT, List.cons.injEq] at hr
  have hp := psR_plus (f 0) _ hm
  rw [hr.2] at hp
  have hb : bigS (unp r) = false := by
    unfold bigS slen
    rw [unp_len, show (262144 : Int) = Int.ofNat 262144 from rfl, ilt_nat]
    exact decide_eq_false (by omega)
  have hL : psL (unp r) = lsE (m + 1) f := by
    unfold psL
    rw [hb, hp, lsE_cons]
    rfl
  refine ⟨?_, ?_, fun i hi => ?_⟩
  · unfold psE
    rw [hb, hp]
    rfl
  · unfold psN
    rw [hL, lsE_len]
  · unfold psG
    rw [hL, lsE_get hi]

end Go.Proofs.YtkcbdemfmjciiaaGreatDoor.Ed

