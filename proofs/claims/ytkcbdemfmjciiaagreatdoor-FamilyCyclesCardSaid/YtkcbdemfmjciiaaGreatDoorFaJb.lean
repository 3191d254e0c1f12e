/-
  The shelf's words for what strings.ReplaceAll and strings.CutPrefix answer, said by unp and cutP. No program.
-/
import Derived.Lib.Replace
import Derived.Lib.IndexLaws
import Derived.Lib.IndexBytes
import Derived.Lib.IndexMore
import Derived.Lib.Strings
import Derived.Test.YtkcbdemfmjciiaaGreatDoorFaJ
namespace Go.Proofs.YtkcbdemfmjciiaaGreatDoor.Ed
open Go.Sy
set_option maxRecDepth 100000

theorem unp_none {s : List UInt8} (h : ∀ k : Nat, s[k]? ≠ some 43) : unp s = s := by
  refine (List.map_congr_left fun c hc => ?_).trans (List.map_id s)
  show (if c = 43 then 32 else c) = c
  rw [if_neg]
  rintro rfl
  obtain ⟨k, hk⟩ := List.mem_iff_getElem?.1 hc
  exact h k hk

theorem replaceK_plus : ∀ (m : Nat) (s : List UInt8) (fuel : Nat), s.length ≤ m → s.length < fuel → Lib.replaceK [43] [32] (Lib.countFrom [43] fuel s) s = unp s := by
  intro m
  induction m with
  | zero =>
    intro s fuel hm hf
    obtain rfl : s = [] := List.length_eq_zero_iff.1 (by omega)
    obtain ⟨q, rfl⟩ : ∃ q, fuel = q + 1 := ⟨fuel - 1, by simp at hf; omega⟩
    rfl
  | succ m ih =>
    intro s fuel hm hf
    obtain ⟨q, rfl⟩ : ∃ q, fuel = q + 1 := ⟨fuel - 1, by omega⟩
    have hge := Lib.index_ge s [43]
    by_cases h1 : Lib.index s [43] = -1
    · rw [Lib.countFrom, if_pos (beq_iff_eq.2 h1)]
      rw [Lib.index_one] at h1
      exact (unp_none (Lib.indexByte_none h1)).symm
    · obtain ⟨i, hi⟩ : ∃ i : Nat, Lib.index s [43] = i := ⟨(Lib.index s [43]).toNat, by omega⟩
      rw [Lib.countFrom, if_neg (fun e => h1 (beq_iff_eq.1 e)), Nat.add_comm, Lib.replaceK_hit _ _ _ _ i hi, hi]
      have h2 := hi
      rw [Lib.index_one] at h2
      obtain ⟨h3, h4⟩ := Lib.indexByte_some h2
      have hlt : i < s.length := by
        rw [List.getElem?_eq_some_iff] at h3
        exact h3.1
      have hg : s[i] = 43 := by
        rw [List.getElem?_eq_getElem hlt, Option.some.injEq] at h3
        exact h3
      have hs : s = s.take i ++ 43 :: s.drop (i + 1) := by
        conv => lhs; rw [← List.take_append_drop i s, List.drop_eq_getElem_cons hlt, hg]
      have hr := ih (s.drop (i + 1)) q (by rw [List.length_drop]; omega) (by rw [List.length_drop]; omega)
      have hk : ((i : Int).toNat + [(43 : UInt8)].length) = i + 1 := by simp
      rw [hk, show i + [(43 : UInt8)].length = i + 1 from rfl, hr]
      conv => rhs; rw [hs]
      rw [unp_app, unp_cons, if_pos rfl, unp_none (s := s.take i) fun k hk => ?_]
      · simp
      · rw [List.getElem?_take] at hk
        split at hk
        · rename_i hki
          exact h4 k hki hk
        · cases hk

theorem replaceAll_plus (s : List UInt8) : Lib.replaceAll s [43] [32] = unp s := by
  have h := replaceK_plus s.length s (s.length + 1) (Nat.le_refl _) (Nat.lt_succ_self _)
  unfold Lib.replaceAll Lib.replace
  rw [if_neg (by decide)]
  unfold Lib.replaceNum
  rw [if_pos (Or.inl (by decide))]
  exact h

def cutR (p s : List UInt8) : List UInt8 × Bool := match cutP p s with
  | some r => (r, true)
  | none => (s, false)
theorem cut_spec (p : List UInt8) : ∀ s : List UInt8, (Lib.trimPrefix s p, Lib.hasPrefix s p) = cutR p s := by
  induction p with
  | nil => intro s; simp [Lib.trimPrefix, Lib.hasPrefix, cutP, cutR]
  | cons x p ih =>
    intro s
    cases s with
    | nil => rfl
    | cons y s =>
      have ih := ih s
      unfold cutR at ih ⊢
      by_cases h : x = y
      · subst h
        have h1 : Lib.hasPrefix (x :: s) (x :: p) = Lib.hasPrefix s p := by simp [Lib.hasPrefix, List.isPrefixOf]
        unfold Lib.trimPrefix at ih ⊢
        rw [h1, cutP, if_pos rfl]
        cases hp : Lib.hasPrefix s p
        · rw [hp] at ih
          cases hc : cutP p s with
          | none => rfl
          | some r => rw [hc] at ih; simp at ih
        · rw [hp] at ih
          cases hc : cutP p s with
          | none => rw [hc] at ih; simp at ih
          | some r =>
            rw [hc] at ih
            simp only [if_true, Prod.mk.injEq, and_true] at ih
            simp [ih]
      · have h1 : Lib.hasPrefix (y :: s) (x :: p) = false := by simp [Lib.hasPrefix, List.isPrefixOf, h]
        unfold Lib.trimPrefix
        rw [h1, cutP, if_neg h]
        rfl

theorem countFrom_le : ∀ (fuel : Nat) (s : List UInt8), Lib.countFrom [43] fuel s ≤ s.length
  | 0, _ => Nat.zero_le _
  | q + 1, s => by
    rw [Lib.countFrom]
    split
    · exact Nat.zero_le _
    · have h := countFrom_le q (s.drop ((Lib.index s [43]).toNat + [(43 : UInt8)].length))
      rename_i h1
      have hge := Lib.index_ge s [43]
      have h0 : Lib.index s [43] ≠ -1 := fun e => h1 (beq_iff_eq.2 e)
      have h00 : 0 ≤ Lib.index s [43] := by omega
      have h2 := Lib.index_room s [43] h00
      rw [List.length_drop] at h
      simp only [List.length_cons, List.length_nil] at h h2
      simp only [List.length_cons, List.length_nil]
      omega
end Go.Proofs.YtkcbdemfmjciiaaGreatDoor.Ed

