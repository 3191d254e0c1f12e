/-
  Layer 5, the document's side: its closed lists are the trace of a power. No conditions.
-/
import Derived.Test.YtdmjcpindopjdaaCoVf
namespace Go.Proofs.Ytdmjcpindopjdaa.Co
open Go.Sy

/-- An entry of a matrix. -/
def N4.at (m : N4) (i j : Nat) : Nat :=
  match i, j with
  | 0, 0 => m.a
  | 0, _ => m.b
  | _, 0 => m.c
  | _, _ => m.d

def mI (m : N4) : Int × Int × Int × Int := (Int.ofNat m.a, Int.ofNat m.b, Int.ofNat m.c, Int.ofNat m.d)

theorem bor_pos (u v x y : Nat) : bor (band (decide (0 < u)) (ilt 0 (Int.ofNat x))) (band (decide (0 < v)) (ilt 0 (Int.ofNat y))) = decide (0 < u * x + v * y) := by
  have hx : ilt 0 (Int.ofNat x) = decide (0 < x) := by unfold ilt; simp
  have hy : ilt 0 (Int.ofNat y) = decide (0 < y) := by unfold ilt; simp
  rw [hx, hy]
  unfold bor band
  rw [Bool.eq_iff_iff]
  simp only [Bool.or_eq_true, Bool.and_eq_true, decide_eq_true_eq]
  constructor
  · rintro (⟨h1, h2⟩ | ⟨h1, h2⟩)
    · have := Nat.mul_pos h1 h2; omega
    · have := Nat.mul_pos h1 h2; omega
  · intro h
    by_cases h1 : 0 < u * x
    · exact .inl ⟨Nat.pos_of_mul_pos_right h1, Nat.pos_of_mul_pos_left h1⟩
    · have h2 : 0 < v * y := by omega
      exact .inr ⟨Nat.pos_of_mul_pos_right h2, Nat.pos_of_mul_pos_left h2⟩

theorem pow_first (m : N4) (e : Nat) : m.pow (e + 1) = m.mul (m.pow e) := by
  rw [Nat.add_comm, N4.pow_add, N4.pow_one]

theorem reach_pos (m : N4) : ∀ (e u v : Nat), reach (Int.ofNat m.a) (Int.ofNat m.b) (Int.ofNat m.c) (Int.ofNat m.d) e (decide (0 < u), decide (0 < v)) =
    (decide (0 < u * (m.pow e).a + v * (m.pow e).c), decide (0 < u * (m.pow e).b + v * (m.pow e).d))
  | 0, u, v => by
    show (decide (0 < u), decide (0 < v)) = (decide (0 < u * 1 + v * 0), decide (0 < u * 0 + v * 1))
    simp
  | e + 1, u, v => by
    show reach _ _ _ _ e (bor (band (decide (0 < u)) (ilt 0 (Int.ofNat m.a))) (band (decide (0 < v)) (ilt 0 (Int.ofNat m.c))), bor (band (decide (0 < u)) (ilt 0 (Int.ofNat m.b))) (band (decide (0 < v)) (ilt 0 (Int.ofNat m.d)))) = _
    rw [bor_pos, bor_pos, reach_pos m e, pow_first]
    simp only [N4.mul]
    have e1 : (u * m.a + v * m.c) * (m.pow e).a + (u * m.b + v * m.d) * (m.pow e).c = u * (m.a * (m.pow e).a + m.b * (m.pow e).c) + v * (m.c * (m.pow e).a + m.d * (m.pow e).c) := by grind
    have e2 : (u * m.a + v * m.c) * (m.pow e).b + (u * m.b + v * m.d) * (m.pow e).d = u * (m.a * (m.pow e).b + m.b * (m.pow e).d) + v * (m.c * (m.pow e).b + m.d * (m.pow e).d) := by grind
    exact Prod.ext (decide_eq_decide.2 (by rw [e1])) (decide_eq_decide.2 (by rw [e2]))

theorem comes_pos (m : N4) (s t e : Nat) (hs : s ≤ 1) (ht : t ≤ 1) : comesB (Int.ofNat m.a) (Int.ofNat m.b) (Int.ofNat m.c) (Int.ofNat m.d) s t e = decide (0 < (m.pow e).at s t) := by
  have hs : s = 0 ∨ s = 1 := by omega
  have ht : t = 0 ∨ t = 1 := by omega
  unfold comesB
  rcases hs with rfl | rfl
  · have h := reach_pos m e 1 0
    rw [show (Nat.beq 0 0, Nat.beq 0 1) = (decide (0 < 1), decide (0 < 0)) from rfl, h]
    rcases ht with rfl | rfl <;> simp [N4.at]
  · have h := reach_pos m e 0 1
    rw [show (Nat.beq 1 0, Nat.beq 1 1) = (decide (0 < 0), decide (0 < 1)) from rfl, h]
    rcases ht with rfl | rfl <;> simp [N4.at]

/-! ### The tests -/

theorem tst_split (c0 c1 : Bool) (a b c d x y : Int) : tst c0 c1 a b c d x y = (sel c0 (okT (imul x a) && (okT (iadd 0 (topI (imul x a))) && (okT (imul y c) && okT (iadd (topI (iadd 0 (topI (imul x a)))) (topI (imul y c)))))) true
    && sel c1 (okT (imul x b) && (okT (iadd 0 (topI (imul x b))) && (okT (imul y d) && okT (iadd (topI (iadd 0 (topI (imul x b)))) (topI (imul y d)))))) true) := by
  unfold tst
  generalize okT (imul x a) = t1
  generalize okT (iadd 0 (topI (imul x a))) = t2
  generalize okT (imul y c) = t3
  generalize okT (iadd (topI (iadd 0 (topI (imul x a)))) (topI (imul y c))) = t4
  generalize okT (imul x b) = t5
  generalize okT (iadd 0 (topI (imul x b))) = t6
  generalize okT (imul y d) = t7
  generalize okT (iadd (topI (iadd 0 (topI (imul x b)))) (topI (imul y d))) = t8
  cases c0 <;> cases c1 <;> cases t1 <;> cases t2 <;> cases t3 <;> cases t4 <;> cases t5 <;> cases t6 <;> cases t7 <;> cases t8 <;> rfl

theorem test_sum (p q : Int) (hp : 0 ≤ p) (hq : 0 ≤ q) : (okT p && (okT (iadd 0 (topI p)) && (okT q && okT (iadd (topI (iadd 0 (topI p))) (topI q))))) = okT (p + q) ∧ (okT (p + q) = true → topI (iadd (topI (iadd 0 (topI p))) (topI q)) = p + q) := by
  unfold okT iadd topI
  by_cases h1 : p ≤ 9223372036854775807
  · by_cases h2 : q ≤ 9223372036854775807
    · rw [if_pos h1, if_pos h2, decide_eq_true h1, decide_eq_true h2, if_pos (show 0 + p ≤ 9223372036854775807 by omega), decide_eq_true (show 0 + p ≤ 9223372036854775807 by omega), Int.zero_add]
      refine ⟨rfl, fun h => if_pos (of_decide_eq_true h)⟩
    · rw [decide_eq_false h2, decide_eq_false (show ¬ p + q ≤ 9223372036854775807 by omega)]
      simp
  · rw [decide_eq_false h1, decide_eq_false (show ¬ p + q ≤ 9223372036854775807 by omega)]
    simp

/-! ### The rows -/

/-- What is known behind k edges. -/
def RowInv (m : N4) (s n k : Nat) (p : Int × Int × Bool) : Prop :=
  okG p.1 = true ∧ okG p.2.1 = true ∧ (p.2.2 = true → (0 < (m.pow (n - k)).at 0 s → p.1 = Int.ofNat ((m.pow k).at s 0)) ∧ (0 < (m.pow (n - k)).at 1 s → p.2.1 = Int.ofNat ((m.pow k).at s 1))) ∧ (p.2.2 = false → (9223372036854775807 : Int) < Int.ofNat ((m.pow n).at s s))

theorem at_mul (m k : N4) (i j : Nat) (hi : i ≤ 1) (hj : j ≤ 1) : (m.mul k).at i j = m.at i 0 * k.at 0 j + m.at i 1 * k.at 1 j := by
  have hi : i = 0 ∨ i = 1 := by omega
  have hj : j = 0 ∨ j = 1 := by omega
  rcases hi with rfl | rfl <;> rcases hj with rfl | rfl <;> rfl

/-- One direction: the product with a column, where a way leads back. -/
theorem col_step (m : N4) (s n k : Nat) (hs : s ≤ 1) (hk : k + 1 ≤ n) (t : Nat) (ht : t ≤ 1) (x y : Int) (hx : 0 < (m.pow (n - k)).at 0 s → x = Int.ofNat ((m.pow k).at s 0)) (hy : 0 < (m.pow (n - k)).at 1 s → y = Int.ofNat ((m.pow k).at s 1))
    (hc : 0 < (m.pow (n - (k + 1))).at t s) : x * Int.ofNat (m.at 0 t) + y * Int.ofNat (m.at 1 t) = Int.ofNat ((m.pow (k + 1)).at s t) ∧ Int.ofNat ((m.pow (k + 1)).at s t) ≤ Int.ofNat ((m.pow n).at s s) := by
  have e1 : m.pow (n - k) = m.mul (m.pow (n - (k + 1))) := by rw [← pow_first]; congr 1; omega
  have e2 : (m.pow (k + 1)).at s t = (m.pow k).at s 0 * m.at 0 t + (m.pow k).at s 1 * m.at 1 t := at_mul (m.pow k) m s t hs ht
  have e3 : m.pow n = (m.pow (k + 1)).mul (m.pow (n - (k + 1))) := by rw [← N4.pow_add]; congr 1; omega
  have fx : x * Int.ofNat (m.at 0 t) = Int.ofNat ((m.pow k).at s 0 * m.at 0 t) := by
    rcases Nat.eq_zero_or_pos (m.at 0 t) with hz | hz
    · rw [hz]; simp
    · have : 0 < (m.pow (n - k)).at 0 s := by
        rw [e1, at_mul _ _ 0 s (by omega) hs]
        have hp := Nat.mul_pos hz hc
        have ht : t = 0 ∨ t = 1 := by omega
        rcases ht with rfl | rfl <;> omega
      rw [hx this]
      simp
  have fy : y * Int.ofNat (m.at 1 t) = Int.ofNat ((m.pow k).at s 1 * m.at 1 t) := by
    rcases Nat.eq_zero_or_pos (m.at 1 t) with hz | hz
    · rw [hz]; simp
    · have : 0 < (m.pow (n - k)).at 1 s := by
        rw [e1, at_mul _ _ 1 s (by omega) hs]
        have hp := Nat.mul_pos hz hc
        have ht : t = 0 ∨ t = 1 := by omega
        rcases ht with rfl | rfl <;> omega
      rw [hy this]
      simp
  refine ⟨by rw [fx, fy, e2]; simp, ?_⟩
  rw [e3, at_mul _ _ s s hs hs]
  have hp := Nat.mul_le_mul_left ((m.pow (k + 1)).at s t) hc
  have ht : t = 0 ∨ t = 1 := by omega
  refine Int.ofNat_le.2 ?_
  rcases ht with rfl | rfl <;> omega

theorem rowInv_step (m : N4) (hm : okM4 (mI m) = true) (s n k : Nat) (hs : s ≤ 1) (hk : k + 1 ≤ n) (p : Int × Int × Bool) (h : RowInv m s n k p) :
    RowInv m s n (k + 1) (rowStep (Int.ofNat m.a) (Int.ofNat m.b) (Int.ofNat m.c) (Int.ofNat m.d) s n (k + 1) p) := by
  simp only [okM4, mI, Bool.and_eq_true] at hm
  obtain ⟨ga, gb, gc, gd⟩ := hm
  obtain ⟨h1, h2, h3, h4⟩ := h
  have hk1 := rowStep_ok ga gb gc gd s n (k + 1) p h1 h2
  refine ⟨hk1.1, hk1.2, ?_⟩
  obtain ⟨x, y, F⟩ := p
  unfold rowStep
  rw [tst_split, comes_pos m 0 s _ (by omega) hs, comes_pos m 1 s _ (by omega) hs]
  simp only at h1 h2 h3 h4 ⊢
  have q0 := test_sum (imul x (Int.ofNat m.a)) (imul y (Int.ofNat m.c)) (mul_nn h1 ga) (mul_nn h2 gc)
  have q1 := test_sum (imul x (Int.ofNat m.b)) (imul y (Int.ofNat m.d)) (mul_nn h1 gb) (mul_nn h2 gd)
  rw [q0.1, q1.1]
  cases F with
  | false =>
    refine ⟨fun hf => by simp at hf, fun _ => h4 rfl⟩
  | true =>
    obtain ⟨hx, hy⟩ := h3 rfl
    have s0 := col_step m s n k hs hk 0 (by omega) x y hx hy
    have s1 := col_step m s n k hs hk 1 (by omega) x y hx hy
    have d0 : m.at 0 0 = m.a := rfl
    have d1 : m.at 1 0 = m.c := rfl
    have d2 : m.at 0 1 = m.b := rfl
    have d3 : m.at 1 1 = m.d := rfl
    rw [d0, d1] at s0
    rw [d2, d3] at s1
    have i0 : imul x (Int.ofNat m.a) + imul y (Int.ofNat m.c) = x * Int.ofNat m.a + y * Int.ofNat m.c := rfl
    have i1 : imul x (Int.ofNat m.b) + imul y (Int.ofNat m.d) = x * Int.ofNat m.b + y * Int.ofNat m.d := rfl
    rw [i0] at q0 ⊢
    rw [i1] at q1 ⊢
    constructor
    · intro hf
      simp only [Bool.true_and, Bool.and_eq_true] at hf
      obtain ⟨f0, f1⟩ := hf
      constructor
      · intro hc
        rw [decide_eq_true hc] at f0 ⊢
        rw [sel_true] at f0 ⊢
        rw [← (s0 hc).1]
        exact q0.2 f0
      · intro hc
        rw [decide_eq_true hc] at f1 ⊢
        rw [sel_true] at f1 ⊢
        rw [← (s1 hc).1]
        exact q1.2 f1
    · intro hf
      simp only [Bool.true_and] at hf
      by_cases hc0 : 0 < (m.pow (n - (k + 1))).at 0 s
      · rw [decide_eq_true hc0, sel_true] at hf
        cases ht : okT (x * Int.ofNat m.a + y * Int.ofNat m.c) with
        | false =>
          have := of_decide_eq_false ht
          have := s0 hc0
          omega
        | true =>
          rw [ht, Bool.true_and] at hf
          by_cases hc1 : 0 < (m.pow (n - (k + 1))).at 1 s
          · rw [decide_eq_true hc1, sel_true] at hf
            have := of_decide_eq_false hf
            have := s1 hc1
            omega
          · rw [decide_eq_false hc1, sel_false] at hf
            cases hf
      · rw [decide_eq_false hc0, sel_false, Bool.true_and] at hf
        by_cases hc1 : 0 < (m.pow (n - (k + 1))).at 1 s
        · rw [decide_eq_true hc1, sel_true] at hf
          have := of_decide_eq_false hf
          have := s1 hc1
          omega
        · rw [decide_eq_false hc1, sel_false] at hf
          cases hf

theorem rowInv_run (m : N4) (hm : okM4 (mI m) = true) (s n : Nat) (hs : s ≤ 1) : ∀ (e k : Nat) (p : Int × Int × Bool), n = k + e → RowInv m s n k p →
    RowInv m s n n (rowRun (Int.ofNat m.a) (Int.ofNat m.b) (Int.ofNat m.c) (Int.ofNat m.d) s n e (k + 1) p)
  | 0, k, p, h, hp => by
    have : n = k := by omega
    subst this
    exact hp
  | e + 1, k, p, h, hp => rowInv_run m hm s n hs e (k + 1) _ (by omega) (rowInv_step m hm s n k hs (by omega) p hp)

theorem rowRun_false (a b c d : Int) (s n : Nat) : ∀ (e k : Nat) (p : Int × Int × Bool), p.2.2 = false → (rowRun a b c d s n e k p).2.2 = false
  | 0, _, _, h => h
  | e + 1, k, p, h => rowRun_false a b c d s n e (k + 1) _ (by unfold rowStep; rw [h]; rfl)

theorem top_id {x : Int} (h : okG x = true) : topI (iadd 0 x) = x ∧ okT (iadd 0 x) = true := by
  have h := okG_iff.1 h
  unfold topI okT iadd
  rw [Int.zero_add, if_pos h.2, decide_eq_true h.2]
  exact ⟨rfl, rfl⟩

theorem walkV_eq (m : N4) (hm : okM4 (mI m) = true) (n : Nat) :
    (walkV (Int.ofNat m.a) (Int.ofNat m.b) (Int.ofNat m.c) (Int.ofNat m.d) n).2 = okT (trI m n) ∧ (okT (trI m n) = true → (walkV (Int.ofNat m.a) (Int.ofNat m.b) (Int.ofNat m.c) (Int.ofNat m.d) n).1 = trI m n) := by
  have hA := rowInv_run m hm 0 n (by omega) n 0 (1, 0, true) (by omega) ⟨rfl, rfl, fun _ => ⟨fun _ => rfl, fun _ => rfl⟩, fun h => by cases h⟩
  have e0 : (m.pow (n - n)).at 0 0 = 1 := by rw [Nat.sub_self]; rfl
  have e1 : (m.pow (n - n)).at 1 1 = 1 := by rw [Nat.sub_self]; rfl
  have et : trI m n = Int.ofNat ((m.pow n).at 0 0) + Int.ofNat ((m.pow n).at 1 1) := rfl
  have z0 : (0 : Int) ≤ Int.ofNat ((m.pow n).at 0 0) := by simp
  have z1 : (0 : Int) ≤ Int.ofNat ((m.pow n).at 1 1) := by simp
  have hB : ∀ F, (F = true ∨ F = false) → (F = true → RowInv m 1 n n (rowRun (Int.ofNat m.a) (Int.ofNat m.b) (Int.ofNat m.c) (Int.ofNat m.d) 1 n n 1 (0, 1, F))) := by
    intro F _ hF
    subst hF
    exact rowInv_run m hm 1 n (by omega) n 0 (0, 1, true) (by omega) ⟨rfl, rfl, fun _ => ⟨fun _ => rfl, fun _ => rfl⟩, fun h => by cases h⟩
  unfold walkV
  obtain ⟨a1, a2, a3, a4⟩ := hA
  rw [Nat.zero_add] at a1 a2 a3 a4
  have wA : walkA (Int.ofNat m.a) (Int.ofNat m.b) (Int.ofNat m.c) (Int.ofNat m.d) n = ((rowRun (Int.ofNat m.a) (Int.ofNat m.b) (Int.ofNat m.c) (Int.ofNat m.d) 0 n n 1 (1, 0, true)).1, (rowRun (Int.ofNat m.a) (Int.ofNat m.b) (Int.ofNat m.c) (Int.ofNat m.d) 0 n n 1 (1, 0, true)).2.2) := by
    unfold walkA
    rw [(top_id a1).1, (top_id a1).2, Bool.and_true]
  rw [wA]
  generalize rowRun (Int.ofNat m.a) (Int.ofNat m.b) (Int.ofNat m.c) (Int.ofNat m.d) 0 n n 1 (1, 0, true) = P at *
  obtain ⟨x, y, F⟩ := P
  simp only at a1 a2 a3 a4 ⊢
  unfold walkB
  simp only
  cases F with
  | false =>
    have := a4 rfl
    have hf := rowRun_false (Int.ofNat m.a) (Int.ofNat m.b) (Int.ofNat m.c) (Int.ofNat m.d) 1 n n 1 (0, 1, false) rfl
    have ht : okT (trI m n) = false := decide_eq_false (by omega)
    rw [hf, ht]
    exact ⟨rfl, fun h => by cases h⟩
  | true =>
    have hx := (a3 rfl).1 (by rw [e0]; omega)
    obtain ⟨b1, b2, b3, b4⟩ := hB true (.inl rfl) rfl
    generalize rowRun (Int.ofNat m.a) (Int.ofNat m.b) (Int.ofNat m.c) (Int.ofNat m.d) 1 n n 1 (0, 1, true) = Q at *
    obtain ⟨u, v, G⟩ := Q
    simp only at b1 b2 b3 b4 ⊢
    cases G with
    | false =>
      have := b4 rfl
      have ht : okT (trI m n) = false := decide_eq_false (by omega)
      rw [ht]
      exact ⟨rfl, fun h => by cases h⟩
    | true =>
      have hy := (b3 rfl).2 (by rw [e1]; omega)
      have es : iadd x v = trI m n := by rw [et, hx, hy]; rfl
      rw [es]
      refine ⟨rfl, fun h => ?_⟩
      unfold topI
      rw [if_pos (of_decide_eq_true h)]

end Go.Proofs.Ytdmjcpindopjdaa.Co
