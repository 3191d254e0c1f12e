/-
  Layer 5: closed lists, as traces of powers up to 2^63. No conditions.
-/
import Derived.Test.YtdmjcpindopjdaaCoX
import Derived.Test.YtdmjcpindopjdaaCoMa
namespace Go.Proofs.Ytdmjcpindopjdaa.Co
open Go.Sy

/-- A number up to 2^63. -/
def satU (x : Int) : Int := if 9223372036854775808 ≤ x then 9223372036854775808 else x

theorem sat_plus {x y : Int} (hx : 0 ≤ x) (hy : 0 ≤ y) : plusU (satU x) (satU y) = satU (x + y) := by
  unfold plusU satU
  split <;> split <;> split <;> (try split) <;> omega

theorem sat_small {x : Int} (h : x < 9223372036854775808) : satU x = x := by
  unfold satU
  rw [if_neg (by omega)]

theorem sat_prod {x y : Int} (hx : 0 ≤ x) (hy : 0 ≤ y) : prodU (satU x) (satU y) = satU (x * y) := by
  rcases Int.lt_or_le 0 x with hx1 | hx1
  · rcases Int.lt_or_le 0 y with hy1 | hy1
    · have e1 : x ≤ x * y := by
        have := Int.mul_le_mul_of_nonneg_left (show 1 ≤ y by omega) hx
        omega
      have e2 : y ≤ x * y := by
        have := Int.mul_le_mul_of_nonneg_right (show 1 ≤ x by omega) hy
        omega
      by_cases h1 : 9223372036854775808 ≤ x
      · have p : satU x = 9223372036854775808 := if_pos h1
        have q : satU (x * y) = 9223372036854775808 := if_pos (by omega)
        have r : 1 ≤ satU y := by unfold satU; split <;> omega
        rw [p, q]
        unfold prodU
        rw [if_pos (by omega)]
      · by_cases h2 : 9223372036854775808 ≤ y
        · have p : satU y = 9223372036854775808 := if_pos h2
          have q : satU (x * y) = 9223372036854775808 := if_pos (by omega)
          have r : 1 ≤ satU x := by unfold satU; split <;> omega
          rw [p, q]
          unfold prodU
          rw [if_pos (by omega)]
        · rw [sat_small (by omega), sat_small (by omega)]
          rfl
    · have : y = 0 := by omega
      subst this
      rw [Int.mul_zero]
      unfold prodU
      rw [show satU 0 = 0 from rfl, Int.mul_zero]
      rfl
  · have : x = 0 := by omega
    subst this
    rw [Int.zero_mul]
    unfold prodU
    rw [show satU 0 = 0 from rfl, Int.zero_mul]
    rfl

def N4.s (m : N4) : M4 := ⟨satU (Int.ofNat m.a), satU (Int.ofNat m.b), satU (Int.ofNat m.c), satU (Int.ofNat m.d)⟩

theorem N4.s_mul (m k : N4) : m.s.mul k.s = (m.mul k).s := by
  have h : ∀ x y z u : Nat, plusU (plusU 0 (prodU (satU (Int.ofNat x)) (satU (Int.ofNat y)))) (prodU (satU (Int.ofNat z)) (satU (Int.ofNat u))) = satU (Int.ofNat (x * y + z * u)) := fun x y z u => by
    have p1 : (0 : Int) ≤ Int.ofNat x * Int.ofNat y := Int.mul_nonneg (by simp) (by simp)
    have p2 : (0 : Int) ≤ Int.ofNat z * Int.ofNat u := Int.mul_nonneg (by simp) (by simp)
    have e : Int.ofNat (x * y + z * u) = Int.ofNat x * Int.ofNat y + Int.ofNat z * Int.ofNat u := by simp
    rw [e, sat_prod (by simp) (by simp), sat_prod (by simp) (by simp), show plusU 0 = plusU (satU 0) from rfl, sat_plus (by omega) p1, Int.zero_add, sat_plus p1 p2]
  unfold M4.mul N4.s N4.mul
  simp only [h]

theorem N4.s_ok (m : N4) : m.s.ok = true := by
  have h : ∀ x : Nat, okU (satU (Int.ofNat x)) = true := fun x => by
    rw [okU_iff]
    have : (0 : Int) ≤ Int.ofNat x := by simp
    unfold satU
    split <;> omega
  exact M4.ok_iff.2 ⟨h _, h _, h _, h _⟩

theorem powM_s (m : N4) : ∀ t, powM m.s t = (m.pow (t + 1)).s
  | 0 => by rw [show m.pow (0 + 1) = m from N4.pow_one m]; rfl
  | t + 1 => by
    show (powM m.s t).mul m.s = _
    rw [powM_s m t, N4.s_mul]
    rfl

theorem trU_s (m : N4) (t : Nat) : trU m.s t = satU (trI m (t + 1)) := by
  unfold trU
  rw [powM_s]
  show plusU (satU _) (satU _) = _
  rw [sat_plus (by simp) (by simp)]
  unfold trI N4.tr
  simp

/-- How many edges lead where. -/
def natM (n : Nat) (f : Nat → E6) : N4 := ⟨cntL (onceR f n) 0, cntL (onceR f n) 1, cntL (onceR f n) 2, cntL (onceR f n) 3⟩

theorem natM_s (n : Nat) (f : Nat → E6) (hn : n ≤ 128) : m50 (matN n f 0) (matN n f 1) (matN n f 2) (matN n f 3) = (natM n f).s := by
  have h : ∀ q, wr IntKind.u64 (matN n f q) = satU (Int.ofNat (cntL (onceR f n) q)) := fun q => by
    have h1 := cntL_le (onceR f n) q
    have h2 := onceR_len f n
    rw [wr_u, sat_small (by simp; omega)]
    unfold matN
    simp
    omega
  unfold m50 natM N4.s
  simp only [h]

/-- The closed lists of t edges, of a vocabulary. -/
def cl05 (n : Nat) (f : Nat → E6) (t : Nat) : Int := trI (natM n f) t

theorem wV_sat (n : Nat) (f : Nat → E6) (hn : n ≤ 128) (t : Nat) (ht : 1 ≤ t) : wV n f t = satU (cl05 n f t) := by
  obtain ⟨k, rfl⟩ : ∃ k, t = k + 1 := ⟨t - 1, by omega⟩
  unfold wV wA cl05
  rw [natM_s n f hn]
  exact trU_s _ k

end Go.Proofs.Ytdmjcpindopjdaa.Co
