/-
  Edges whose names stand behind one another: they are read again. No program.
-/
import Derived.Test.YtkcbdemfmjciiaaDoorCyZp
namespace Go.Proofs.YtkcbdemfmjciiaaDoor.Ed
open Go.Sy
set_option maxRecDepth 100000

theorem names_ok : (List.range 112).all (fun k => !(nameS k).isEmpty && (nameS k).all (fun c => !blankC c) && (ieq (parseF (nameS k)) 0 && (eqE (parseE (nameS k)) (madeE k) && (ieq (codeF (madeE k)) 0 && seq (nameF (madeE k)) (nameS k))))) = true := by kernel_rfl

theorem name_facts {e : E6} (h : codeF e = 0) : nameF e ≠ [] ∧ (∀ c ∈ nameF e, blankC c = false) ∧ parseF (nameF e) = 0 ∧ parseE (nameF e) = e := by
  rcases codeF_cases e with ⟨k, hk, _, _, h2, h3⟩ | ⟨h1, _⟩
  · have := List.all_eq_true.1 names_ok k (List.mem_range.2 hk)
    simp only [Bool.and_eq_true] at this
    obtain ⟨⟨n1, n2⟩, n3, n4, _, _⟩ := this
    rw [h3]
    refine ⟨fun e0 => ?_, fun c hc => ?_, ieq_eq n3, ?_⟩
    · rw [e0] at n1; cases n1
    · have := List.all_eq_true.1 n2 c hc
      simpa using this
    · rw [(eqE_iff _ _).1 n4, h2]
  · rw [h] at h1; cases h1

def endsB : List UInt8 → Bool
  | [] => true
  | c :: _ => blankC c

theorem wordL_app {w r : List UInt8} (hw : ∀ c ∈ w, blankC c = false) (hr : endsB r = true) : wordL (w ++ r) = w := by
  induction w with
  | nil =>
    cases r with
    | nil => rfl
    | cons c r =>
      show List.takeWhile _ (c :: r) = []
      have : blankC c = true := hr
      simp [List.takeWhile, this]
  | cons c w ih =>
    have hc : blankC c = false := hw c (List.mem_cons_self ..)
    have := ih fun d hd => hw d (List.mem_cons_of_mem _ hd)
    unfold wordL at this ⊢
    rw [List.cons_append, List.takeWhile_cons_of_pos (by simp [hc]), this]

theorem parse_word {w r : List UInt8} (hw : ∀ c ∈ w, blankC c = false) (h0 : w ≠ []) (hr : endsB r = true) (hp : parseF w = 0) (q a : Nat) (acc : List E6) :
    parseL (q + 1) (w ++ r) a acc = parseL q r (a + w.length) (acc ++ [parseE w]) := by
  have h1 := wordL_app hw hr
  cases w with
  | nil => exact absurd rfl h0
  | cons c w =>
    have hc : blankC c = false := hw c (List.mem_cons_self ..)
    rw [List.cons_append] at h1 ⊢
    rw [parseL, if_neg (by rw [hc]; decide), h1, if_pos hp]
    rw [← List.cons_append, List.drop_left]

theorem parse_nil (q a : Nat) (acc : List E6) : parseL q [] a acc = (acc, 0, 0) := by cases q <;> rfl

def tailT : List E6 → List UInt8
  | [] => []
  | e :: es => 32 :: (nameF e ++ tailT es)

theorem tail_ends (es : List E6) : endsB (tailT es) = true := by cases es <;> rfl

theorem parse_tail : ∀ (es : List E6) (q a : Nat) (acc : List E6), (∀ e ∈ es, codeF e = 0) → (tailT es).length < q → parseL q (tailT es) a acc = (acc ++ es, 0, 0)
  | [], q, a, acc, _, _ => by rw [tailT, parse_nil, List.append_nil]
  | e :: es, q, a, acc, h, hq => by
    obtain ⟨n0, n1, n2, n3⟩ := name_facts (h e (List.mem_cons_self ..))
    have hl : 0 < (nameF e).length := List.length_pos_iff.2 n0
    simp only [tailT, List.length_cons, List.length_append] at hq
    obtain ⟨q, rfl⟩ : ∃ p, q = p + 2 := ⟨q - 2, by omega⟩
    rw [tailT, parse_blank (by decide), parse_word n1 n0 (tail_ends es) n2, n3, parse_tail es q _ _ (fun d hd => h d (List.mem_cons_of_mem _ hd)) (by omega)]
    simp

theorem parse_text (e : E6) (es : List E6) (h : ∀ d ∈ e :: es, codeF d = 0) (q a : Nat) (hq : (nameF e ++ tailT es).length < q) : parseL q (nameF e ++ tailT es) a [] = (e :: es, 0, 0) := by
  obtain ⟨n0, n1, n2, n3⟩ := name_facts (h e (List.mem_cons_self ..))
  have hl : 0 < (nameF e).length := List.length_pos_iff.2 n0
  rw [List.length_append] at hq
  obtain ⟨q, rfl⟩ : ∃ p, q = p + 1 := ⟨q - 1, by omega⟩
  rw [parse_word n1 n0 (tail_ends es) n2, n3, parse_tail es q _ _ (fun d hd => h d (List.mem_cons_of_mem _ hd)) (by omega)]
  rfl


end Go.Proofs.YtkcbdemfmjciiaaDoor.Ed
