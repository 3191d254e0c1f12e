/-
  Layer 5: a number of 128 bits, divided by one from 1 to 16. No conditions.
-/
import Derived.Test.YtdmjcpindopjdaaCoY
import Derived.Laws.BitsLemmas
namespace Go.Proofs.Ytdmjcpindopjdaa.Co
open Go.Sy

noncomputable def F67b : List V → T (V × List Blk) := fun vs => finF (evalF tab (cxOf Gl t0 []) Try.f67 vs [])
theorem b67b : PureC Try.prog Gl 67 F67b := pureC_body tabOK mixed Try.func67 (by kernel_rfl) (by kernel_rfl) (cx_ok t0_ok _)
noncomputable def tb67 : List (Nat × (List V → T (V × List Blk))) := [(67, F67b)]
theorem tb67_ok : AllPure Try.prog Gl tb67 := .cons b67b .nil

def lzN (k : Nat) : Nat := match Nat.ble 16 k with
  | true => 59
  | false => match Nat.ble 8 k with
    | true => 60
    | false => match Nat.ble 4 k with
      | true => 61
      | false => match Nat.ble 2 k with
        | true => 62
        | false => 63
def lzI (x : Int) : Int := Int.ofNat (lzN (toN x))
def lzT : List V → T (V × List Blk) := ap1 gU fun x => .br (ile 1 x) (.br (ile x 16) (out (iV (lzI x))) .fail) .fail

theorem lz1 : (finF (evalF tab (cxOf Gl tb67 []) Try.f64 [uV 1] [])).sem = some (iV (lzI 1), []) := by kernel_rfl
theorem lz2 : (finF (evalF tab (cxOf Gl tb67 []) Try.f64 [uV 2] [])).sem = some (iV (lzI 2), []) := by kernel_rfl
theorem lz3 : (finF (evalF tab (cxOf Gl tb67 []) Try.f64 [uV 3] [])).sem = some (iV (lzI 3), []) := by kernel_rfl
theorem lz4 : (finF (evalF tab (cxOf Gl tb67 []) Try.f64 [uV 4] [])).sem = some (iV (lzI 4), []) := by kernel_rfl
theorem lz5 : (finF (evalF tab (cxOf Gl tb67 []) Try.f64 [uV 5] [])).sem = some (iV (lzI 5), []) := by kernel_rfl
theorem lz6 : (finF (evalF tab (cxOf Gl tb67 []) Try.f64 [uV 6] [])).sem = some (iV (lzI 6), []) := by kernel_rfl
theorem lz7 : (finF (evalF tab (cxOf Gl tb67 []) Try.f64 [uV 7] [])).sem = some (iV (lzI 7), []) := by kernel_rfl
theorem lz8 : (finF (evalF tab (cxOf Gl tb67 []) Try.f64 [uV 8] [])).sem = some (iV (lzI 8), []) := by kernel_rfl
theorem lz9 : (finF (evalF tab (cxOf Gl tb67 []) Try.f64 [uV 9] [])).sem = some (iV (lzI 9), []) := by kernel_rfl
theorem lz10 : (finF (evalF tab (cxOf Gl tb67 []) Try.f64 [uV 10] [])).sem = some (iV (lzI 10), []) := by kernel_rfl
theorem lz11 : (finF (evalF tab (cxOf Gl tb67 []) Try.f64 [uV 11] [])).sem = some (iV (lzI 11), []) := by kernel_rfl
theorem lz12 : (finF (evalF tab (cxOf Gl tb67 []) Try.f64 [uV 12] [])).sem = some (iV (lzI 12), []) := by kernel_rfl
theorem lz13 : (finF (evalF tab (cxOf Gl tb67 []) Try.f64 [uV 13] [])).sem = some (iV (lzI 13), []) := by kernel_rfl
theorem lz14 : (finF (evalF tab (cxOf Gl tb67 []) Try.f64 [uV 14] [])).sem = some (iV (lzI 14), []) := by kernel_rfl
theorem lz15 : (finF (evalF tab (cxOf Gl tb67 []) Try.f64 [uV 15] [])).sem = some (iV (lzI 15), []) := by kernel_rfl
theorem lz16 : (finF (evalF tab (cxOf Gl tb67 []) Try.f64 [uV 16] [])).sem = some (iV (lzI 16), []) := by kernel_rfl

theorem to16 {n : Int} (h1 : 1 ≤ n) (h2 : n ≤ 16) : n = 1 ∨ n = 2 ∨ n = 3 ∨ n = 4 ∨ n = 5 ∨ n = 6 ∨ n = 7 ∨ n = 8 ∨ n = 9 ∨ n = 10 ∨ n = 11 ∨ n = 12 ∨ n = 13 ∨ n = 14 ∨ n = 15 ∨ n = 16 := by omega

theorem p64 : PureC Try.prog Gl 64 lzT := by
  refine PureC.congr (pureC_body tabOK mixed Try.func64 (by kernel_rfl) (by kernel_rfl) (Γ := cxOf Gl tb67 []) (cx_ok tb67_ok _)) fun vs r h => ?_
  obtain ⟨x, rfl, h⟩ := ap1_some gU_ok h
  obtain ⟨h1, h⟩ := sem_br_fail h
  obtain ⟨h2, h⟩ := sem_br_fail h
  rw [sem_leaf h]
  have h1 : (1 : Int) ≤ x := of_decide_eq_true h1
  have h2 : x ≤ 16 := of_decide_eq_true h2
  rcases to16 h1 h2 with rfl | rfl | rfl | rfl | rfl | rfl | rfl | rfl | rfl | rfl | rfl | rfl | rfl | rfl | rfl | rfl
  · exact lz1
  · exact lz2
  · exact lz3
  · exact lz4
  · exact lz5
  · exact lz6
  · exact lz7
  · exact lz8
  · exact lz9
  · exact lz10
  · exact lz11
  · exact lz12
  · exact lz13
  · exact lz14
  · exact lz15
  · exact lz16

def yyD (n : Int) : Int := wr IntKind.u64 (ishl IntKind.u64 n (wr IntKind.u64 (lzI n)))
def a1D (n : Int) : Int := ishr IntKind.u64 (yyD n) 32
def a0D (n : Int) : Int := ibits BinOp.and IntKind.u64 (yyD n) 4294967295
def u32D (h l n : Int) : Int := ibits BinOp.or IntKind.u64 (wr IntKind.u64 (ishl IntKind.u64 h (wr IntKind.u64 (lzI n)))) (ishr IntKind.u64 l (wr IntKind.u64 (isub 64 (wr IntKind.u64 (lzI n)))))
def u10D (l n : Int) : Int := wr IntKind.u64 (ishl IntKind.u64 l (wr IntKind.u64 (lzI n)))
def u1D (l n : Int) : Int := ishr IntKind.u64 (u10D l n) 32
def u0D (l n : Int) : Int := ibits BinOp.and IntKind.u64 (u10D l n) 4294967295
def q1D (h l n : Int) : Int := wr IntKind.u64 (itdiv (u32D h l n) (a1D n))
def r1D (h l n : Int) : Int := wr IntKind.u64 (isub (u32D h l n) (wr IntKind.u64 (imul (q1D h l n) (a1D n))))
def u21D (h l n : Int) : Int := wr IntKind.u64 (isub (wr IntKind.u64 (iadd (wr IntKind.u64 (imul (u32D h l n) 4294967296)) (u1D l n))) (wr IntKind.u64 (imul (q1D h l n) (yyD n))))
def q0D (h l n : Int) : Int := wr IntKind.u64 (itdiv (u21D h l n) (a1D n))
def r0W (h l n : Int) : Int := wr IntKind.u64 (isub (wr IntKind.u64 (iadd (wr IntKind.u64 (imul (u21D h l n) 4294967296)) (u0D l n))) (wr IntKind.u64 (imul (q0D h l n) (yyD n))))
def r0D (h l n : Int) : Int := wr IntKind.u64 (isub (u21D h l n) (wr IntKind.u64 (imul (q0D h l n) (a1D n))))

noncomputable def tbD : List (Nat × (List V → T (V × List Blk))) := [(64, lzT)]
theorem tbD_ok : AllPure Try.prog Gl tbD := .cons p64 .nil

theorem way53z_p (h l n : Int) : (finF (evalF tab (cxOf Gl tbD (loops 20)) Try.f53 [uV h, uV l, uV n] [])).path [false, false, true, false, false] = some ([(ieq n 0), (ile n h), (ieq h 0), (ieq n 0), (ieq n 0)], ((.tup [(uV (wr IntKind.u64 (itdiv l n))), (uV (itmod l n))]), [])) := by kernel_rfl
theorem way53z (h l n : Int) (h0 : ieq n 0 = false) (h1 : ile n h = false) (h4 : ieq h 0 = true) : (finF (evalF tab (cxOf Gl tbD (loops 20)) Try.f53 [uV h, uV l, uV n] [])).sem = some ((.tup [(uV (wr IntKind.u64 (itdiv l n))), (uV (itmod l n))]), []) := by
  exact sem_of_path (way53z_p h l n) (by simp only [h0, h1, h4] <;> rfl)

theorem way53p_p (h l n : Int) : (finF (evalF tab (cxOf Gl tbD (loops 20)) Try.f53 [uV h, uV l, uV n] [])).path [false, false, false, true, true, true, true, true, true, true, true, false, false, false, false, false, false, false, false, false, false, false, false, false, false, false, false, false, false, false, false, false, false, true] = some ([(ieq n 0), (ile n h), (ieq h 0), (ile 1 n), (ile n 16), (ile 0 (wr IntKind.u64 (lzI n))), (ile 0 32), (ile 0 (wr IntKind.u64 (lzI n))), (ile 0 (wr IntKind.u64 (isub 64 (wr IntKind.u64 (lzI n))))), (ile 0 (wr IntKind.u64 (lzI n))), (ile 0 32), (ieq (a1D n) 0), (ile 4294967296 (q1D h l n)), (ile 4294967296 (q1D h l n)), (ile 4294967296 (q1D h l n)), (ile 4294967296 (q1D h l n)), (ile 4294967296 (q1D h l n)), (ile 4294967296 (q1D h l n)), (ile 4294967296 (q1D h l n)), (ile 4294967296 (q1D h l n)), (ile 4294967296 (q1D h l n)), (ilt (wr IntKind.u64 (iadd (wr IntKind.u64 (imul 4294967296 (r1D h l n))) (u1D l n))) (wr IntKind.u64 (imul (q1D h l n) (a0D n)))), (ieq (a1D n) 0), (ile 4294967296 (q0D h l n)), (ile 4294967296 (q0D h l n)), (ile 4294967296 (q0D h l n)), (ile 4294967296 (q0D h l n)), (ile 4294967296 (q0D h l n)), (ile 4294967296 (q0D h l n)), (ile 4294967296 (q0D h l n)), (ile 4294967296 (q0D h l n)), (ile 4294967296 (q0D h l n)), (ilt (wr IntKind.u64 (iadd (wr IntKind.u64 (imul 4294967296 (r0D h l n))) (u0D l n))) (wr IntKind.u64 (imul (q0D h l n) (a0D n)))), (ile 0 (wr IntKind.u64 (lzI n)))], ((.tup [(uV (wr IntKind.u64 (iadd (wr IntKind.u64 (imul (q1D h l n) 4294967296)) (q0D h l n)))), (uV (ishr IntKind.u64 (wr IntKind.u64 (isub (wr IntKind.u64 (iadd (wr IntKind.u64 (imul (u21D h l n) 4294967296)) (u0D l n))) (wr IntKind.u64 (imul (q0D h l n) (yyD n))))) (wr IntKind.u64 (lzI n))))]), [])) := by kernel_rfl
theorem way53p (h l n : Int) (h0 : ieq n 0 = false) (h1 : ile n h = false) (h4 : ieq h 0 = false) (h2 : ile 1 n = true) (h3 : ile n 16 = true) (h5 : ile 0 (wr IntKind.u64 (lzI n)) = true) (h6 : ile 0 (wr IntKind.u64 (isub 64 (wr IntKind.u64 (lzI n)))) = true) (h7 : ieq (a1D n) 0 = false) (h8 : ile 4294967296 (q1D h l n) = false) (h9 : ilt (wr IntKind.u64 (iadd (wr IntKind.u64 (imul 4294967296 (r1D h l n))) (u1D l n))) (wr IntKind.u64 (imul (q1D h l n) (a0D n))) = false) (h10 : ile 4294967296 (q0D h l n) = false) (h11 : ilt (wr IntKind.u64 (iadd (wr IntKind.u64 (imul 4294967296 (r0D h l n))) (u0D l n))) (wr IntKind.u64 (imul (q0D h l n) (a0D n))) = false) : (finF (evalF tab (cxOf Gl tbD (loops 20)) Try.f53 [uV h, uV l, uV n] [])).sem = some ((.tup [(uV (wr IntKind.u64 (iadd (wr IntKind.u64 (imul (q1D h l n) 4294967296)) (q0D h l n)))), (uV (ishr IntKind.u64 (wr IntKind.u64 (isub (wr IntKind.u64 (iadd (wr IntKind.u64 (imul (u21D h l n) 4294967296)) (u0D l n))) (wr IntKind.u64 (imul (q0D h l n) (yyD n))))) (wr IntKind.u64 (lzI n))))]), []) := by
  exact sem_of_path (way53p_p h l n) (by simp only [h0, h1, h4, h2, h3, h5, h6, h7, h8, h9, h10, h11] <;> rfl)

/-- The quotient. -/
def divQ (h l n : Int) : Int := (h * 18446744073709551616 + l) / n

def DivOK (h l n : Int) : Prop := ieq (a1D n) 0 = false ∧ ile 4294967296 (q1D h l n) = false ∧ wr IntKind.u64 (imul (q1D h l n) (a0D n)) = 0 ∧ 0 ≤ wr IntKind.u64 (iadd (wr IntKind.u64 (imul 4294967296 (r1D h l n))) (u1D l n)) ∧ ile 4294967296 (q0D h l n) = false ∧ wr IntKind.u64 (imul (q0D h l n) (a0D n)) = 0 ∧ 0 ≤ wr IntKind.u64 (iadd (wr IntKind.u64 (imul 4294967296 (r0D h l n))) (u0D l n)) ∧
  wr IntKind.u64 (iadd (wr IntKind.u64 (imul (q1D h l n) 4294967296)) (q0D h l n)) = divQ h l n

theorem wraps64 (n : Int) (h0 : 0 ≤ n) (h1 : n < 2 ^ 64) : IntKind.u64.wrap n = n := by
  have := wr_u n
  unfold wr at this
  rw [this]
  omega

theorem wr_nonneg (x : Int) : 0 ≤ wr IntKind.u64 x := by rw [wr_u]; omega

theorem mul0 (x y : Int) (h : y = 0) : wr IntKind.u64 (imul x y) = 0 := by
  subst h
  unfold imul
  rw [Int.mul_zero]
  rfl

/-- X: the number's upper part; A: half of the divisor; R: rests. -/
theorem divOK_of (P Q A : Int) (h l n : Int) (ey : yyD n = A * 4294967296) (ea : a1D n = A) (e0 : a0D n = 0) (hA0 : 0 < A) (hA : A < 4294967296) (hP : 0 < P)
    (eu : u32D h l n = h * P + l / Q) (ev : u10D l n = l * P % 18446744073709551616) (h0 : 0 ≤ h) (h1 : h < n) (l0 : 0 ≤ l) (l1 : l < 18446744073709551616)
    (hn : n * P = A * 4294967296) (hPQ : P * Q = 18446744073709551616) (hQ : 0 < Q) : DivOK h l n := by
  have hX0 : 0 ≤ l / Q := Int.ediv_nonneg l0 (by omega)
  have hlQ : l / Q < P := Int.ediv_lt_of_lt_mul hQ (by rw [hPQ]; exact l1)
  have hhP : 0 ≤ h * P := Int.mul_nonneg h0 (by omega)
  have hhP2 : h * P + P ≤ A * 4294967296 := by
    have := Int.mul_le_mul_of_nonneg_right (show h + 1 ≤ n by omega) (show 0 ≤ P by omega)
    rw [Int.add_mul, Int.one_mul, hn] at this
    exact this
  have hX : ∃ X, u32D h l n = X ∧ 0 ≤ X ∧ X < A * 4294967296 ∧ X = h * P + l / Q := ⟨_, rfl, by omega, by omega, eu⟩
  obtain ⟨X, eX, x0, x1, x2⟩ := hX
  have hq := Int.mul_ediv_add_emod X A
  have hr0 := Int.emod_nonneg X (show A ≠ 0 by omega)
  have hr1 := Int.emod_lt_of_pos X hA0
  have hq0 : 0 ≤ X / A := Int.ediv_nonneg x0 (by omega)
  have hq1 : X / A < 4294967296 := Int.ediv_lt_of_lt_mul hA0 (by omega)
  have eq1 : q1D h l n = X / A := by
    unfold q1D itdiv
    rw [eX, ea, Int.tdiv_eq_ediv_of_nonneg x0, wr_u]
    omega
  have ev0 : 0 ≤ u10D l n ∧ u10D l n < 18446744073709551616 := by rw [ev]; omega
  have eu1 : u1D l n = u10D l n / 4294967296 := shr32 _
  have hU : ∃ U, u1D l n = U ∧ 0 ≤ U ∧ U < 4294967296 ∧ U = u10D l n / 4294967296 := ⟨_, rfl, by omega, by omega, eu1⟩
  obtain ⟨U, eU, u0, u1, u2⟩ := hU
  generalize hqd : X / A = q at *
  generalize hrd : X % A = r at *
  have aq0 : 0 ≤ A * q := Int.mul_nonneg (by omega) hq0
  have eq1A : q * (A * 4294967296) = A * q * 4294967296 := by rw [← Int.mul_assoc, Int.mul_comm q A]
  have e21 : u21D h l n = r * 4294967296 + U := by
    unfold u21D imul isub iadd
    rw [eX, eU, eq1, ey, eq1A]
    simp only [wr_u]
    omega
  have hY0 : 0 ≤ r * 4294967296 + U := by omega
  have hY1 : r * 4294967296 + U < A * 4294967296 := by omega
  have hs := Int.mul_ediv_add_emod (r * 4294967296 + U) A
  have hs0 := Int.emod_nonneg (r * 4294967296 + U) (show A ≠ 0 by omega)
  have hs1 := Int.emod_lt_of_pos (r * 4294967296 + U) hA0
  have ht0 : 0 ≤ (r * 4294967296 + U) / A := Int.ediv_nonneg hY0 (by omega)
  have ht1 : (r * 4294967296 + U) / A < 4294967296 := Int.ediv_lt_of_lt_mul hA0 (by omega)
  have eq0 : q0D h l n = (r * 4294967296 + U) / A := by
    unfold q0D itdiv
    rw [e21, ea, Int.tdiv_eq_ediv_of_nonneg hY0, wr_u]
    omega
  generalize (r * 4294967296 + U) / A = t at *
  generalize (r * 4294967296 + U) % A = z at *
  refine ⟨by rw [ea]; exact ieq_false (by omega), by rw [eq1]; exact le_false hq1, mul0 _ _ e0, wr_nonneg _, by rw [eq0]; exact le_false ht1, mul0 _ _ e0, wr_nonneg _, ?_⟩
  have eL : wr IntKind.u64 (iadd (wr IntKind.u64 (imul (q1D h l n) 4294967296)) (q0D h l n)) = q * 4294967296 + t := by
    unfold imul iadd
    rw [eq1, eq0]
    simp only [wr_u]
    omega
  rw [eL]
  unfold divQ
  -- all of it times P
  have hn0 : 0 < n := by omega
  have k1 : (q * 4294967296 + t) * A + z = X * 4294967296 + U := by
    have : (q * 4294967296 + t) * A = A * q * 4294967296 + A * t := by
      rw [Int.add_mul, Int.mul_comm t A, Int.mul_assoc, Int.mul_comm 4294967296 A, ← Int.mul_assoc, Int.mul_comm q A]
    omega
  have hl := Int.mul_ediv_add_emod l Q
  have hl0 := Int.emod_nonneg l (show Q ≠ 0 by omega)
  have hl1 := Int.emod_lt_of_pos l hQ
  have k2 : l * P = (l / Q) * 18446744073709551616 + (l % Q) * P := by
    have : l * P = (Q * (l / Q) + l % Q) * P := by rw [hl]
    rw [this, Int.add_mul, Int.mul_comm Q, Int.mul_assoc, Int.mul_comm Q P, hPQ]
  have k3 : 0 ≤ (l % Q) * P := Int.mul_nonneg hl0 (by omega)
  have k4 : (l % Q) * P + P ≤ 18446744073709551616 := by
    have := Int.mul_le_mul_of_nonneg_right (show l % Q + 1 ≤ Q by omega) (show 0 ≤ P by omega)
    rw [Int.add_mul, Int.one_mul, Int.mul_comm Q P, hPQ] at this
    exact this
  have ev2 : u10D l n = (l % Q) * P := by rw [ev, k2]; omega
  have k5 : (h * 18446744073709551616 + l) * P = X * 18446744073709551616 + u10D l n := by
    rw [ev2, x2, Int.add_mul, k2]
    have : h * 18446744073709551616 * P = h * P * 18446744073709551616 := by rw [Int.mul_assoc, Int.mul_comm 18446744073709551616 P, ← Int.mul_assoc]
    omega
  -- between n times the quotient and n times the next one
  have k6 : n * (q * 4294967296 + t) * P = (q * 4294967296 + t) * A * 4294967296 := by
    rw [Int.mul_comm n, Int.mul_assoc, hn, Int.mul_assoc]
  symm
  have lo : n * (q * 4294967296 + t) ≤ h * 18446744073709551616 + l := by
    refine Int.le_of_mul_le_mul_right (a := P) ?_ hP
    rw [k6, k5]
    omega
  have hi : h * 18446744073709551616 + l < n * (q * 4294967296 + t) + n := by
    refine Int.lt_of_mul_lt_mul_right (a := P) ?_ (by omega)
    rw [Int.add_mul (n * (q * 4294967296 + t)) n P, k6, k5, hn]
    omega
  refine Int.le_antisymm ?_ ?_
  · refine Int.le_of_lt_add_one (Int.ediv_lt_of_lt_mul hn0 ?_)
    rw [Int.add_mul, Int.one_mul, Int.mul_comm _ n]
    exact hi
  · refine Int.le_ediv_of_mul_le hn0 ?_
    rw [Int.mul_comm _ n]
    exact lo

theorem div_1 (h l : Int) (h0 : 0 ≤ h) (h1 : h < 1) (l0 : 0 ≤ l) (l1 : l < 18446744073709551616) : DivOK h l 1 := by
  have eu : u32D h l 1 = h * 9223372036854775808 + l / 2 := by
    have e1 : wr IntKind.u64 (ishl IntKind.u64 h (wr IntKind.u64 (lzI 1))) = h * 9223372036854775808 := by
      have : ishl IntKind.u64 h (wr IntKind.u64 (lzI 1)) = h * 9223372036854775808 := rfl
      rw [this, wr_u]; omega
    have e2 : ishr IntKind.u64 l (wr IntKind.u64 (isub 64 (wr IntKind.u64 (lzI 1)))) = l / 2 := by
      have : ishr IntKind.u64 l (wr IntKind.u64 (isub 64 (wr IntKind.u64 (lzI 1)))) = l.fdiv 2 := rfl
      rw [this, Int.fdiv_eq_ediv_of_nonneg l (by omega)]
    unfold u32D
    rw [e1, e2]
    exact bits_join .u64 64 (by decide) wraps64 63 _ _ (by omega) (by omega) (by omega) (by omega) (by omega) (by omega)
  have ev : u10D l 1 = l * 9223372036854775808 % 18446744073709551616 := by
    have : u10D l 1 = wr IntKind.u64 (l * 9223372036854775808) := rfl
    rw [this, wr_u]
  exact divOK_of 9223372036854775808 2 2147483648 h l 1 rfl rfl rfl (by omega) (by omega) (by omega) eu ev h0 h1 l0 l1 (by omega) (by omega) (by omega)

theorem div_2 (h l : Int) (h0 : 0 ≤ h) (h1 : h < 2) (l0 : 0 ≤ l) (l1 : l < 18446744073709551616) : DivOK h l 2 := by
  have eu : u32D h l 2 = h * 4611686018427387904 + l / 4 := by
    have e1 : wr IntKind.u64 (ishl IntKind.u64 h (wr IntKind.u64 (lzI 2))) = h * 4611686018427387904 := by
      have : ishl IntKind.u64 h (wr IntKind.u64 (lzI 2)) = h * 4611686018427387904 := rfl
      rw [this, wr_u]; omega
    have e2 : ishr IntKind.u64 l (wr IntKind.u64 (isub 64 (wr IntKind.u64 (lzI 2)))) = l / 4 := by
      have : ishr IntKind.u64 l (wr IntKind.u64 (isub 64 (wr IntKind.u64 (lzI 2)))) = l.fdiv 4 := rfl
      rw [this, Int.fdiv_eq_ediv_of_nonneg l (by omega)]
    unfold u32D
    rw [e1, e2]
    exact bits_join .u64 64 (by decide) wraps64 62 _ _ (by omega) (by omega) (by omega) (by omega) (by omega) (by omega)
  have ev : u10D l 2 = l * 4611686018427387904 % 18446744073709551616 := by
    have : u10D l 2 = wr IntKind.u64 (l * 4611686018427387904) := rfl
    rw [this, wr_u]
  exact divOK_of 4611686018427387904 4 2147483648 h l 2 rfl rfl rfl (by omega) (by omega) (by omega) eu ev h0 h1 l0 l1 (by omega) (by omega) (by omega)

theorem div_3 (h l : Int) (h0 : 0 ≤ h) (h1 : h < 3) (l0 : 0 ≤ l) (l1 : l < 18446744073709551616) : DivOK h l 3 := by
  have eu : u32D h l 3 = h * 4611686018427387904 + l / 4 := by
    have e1 : wr IntKind.u64 (ishl IntKind.u64 h (wr IntKind.u64 (lzI 3))) = h * 4611686018427387904 := by
      have : ishl IntKind.u64 h (wr IntKind.u64 (lzI 3)) = h * 4611686018427387904 := rfl
      rw [this, wr_u]; omega
    have e2 : ishr IntKind.u64 l (wr IntKind.u64 (isub 64 (wr IntKind.u64 (lzI 3)))) = l / 4 := by
      have : ishr IntKind.u64 l (wr IntKind.u64 (isub 64 (wr IntKind.u64 (lzI 3)))) = l.fdiv 4 := rfl
      rw [this, Int.fdiv_eq_ediv_of_nonneg l (by omega)]
    unfold u32D
    rw [e1, e2]
    exact bits_join .u64 64 (by decide) wraps64 62 _ _ (by omega) (by omega) (by omega) (by omega) (by omega) (by omega)
  have ev : u10D l 3 = l * 4611686018427387904 % 18446744073709551616 := by
    have : u10D l 3 = wr IntKind.u64 (l * 4611686018427387904) := rfl
    rw [this, wr_u]
  exact divOK_of 4611686018427387904 4 3221225472 h l 3 rfl rfl rfl (by omega) (by omega) (by omega) eu ev h0 h1 l0 l1 (by omega) (by omega) (by omega)

theorem div_4 (h l : Int) (h0 : 0 ≤ h) (h1 : h < 4) (l0 : 0 ≤ l) (l1 : l < 18446744073709551616) : DivOK h l 4 := by
  have eu : u32D h l 4 = h * 2305843009213693952 + l / 8 := by
    have e1 : wr IntKind.u64 (ishl IntKind.u64 h (wr IntKind.u64 (lzI 4))) = h * 2305843009213693952 := by
      have : ishl IntKind.u64 h (wr IntKind.u64 (lzI 4)) = h * 2305843009213693952 := rfl
      rw [this, wr_u]; omega
    have e2 : ishr IntKind.u64 l (wr IntKind.u64 (isub 64 (wr IntKind.u64 (lzI 4)))) = l / 8 := by
      have : ishr IntKind.u64 l (wr IntKind.u64 (isub 64 (wr IntKind.u64 (lzI 4)))) = l.fdiv 8 := rfl
      rw [this, Int.fdiv_eq_ediv_of_nonneg l (by omega)]
    unfold u32D
    rw [e1, e2]
    exact bits_join .u64 64 (by decide) wraps64 61 _ _ (by omega) (by omega) (by omega) (by omega) (by omega) (by omega)
  have ev : u10D l 4 = l * 2305843009213693952 % 18446744073709551616 := by
    have : u10D l 4 = wr IntKind.u64 (l * 2305843009213693952) := rfl
    rw [this, wr_u]
  exact divOK_of 2305843009213693952 8 2147483648 h l 4 rfl rfl rfl (by omega) (by omega) (by omega) eu ev h0 h1 l0 l1 (by omega) (by omega) (by omega)

theorem div_5 (h l : Int) (h0 : 0 ≤ h) (h1 : h < 5) (l0 : 0 ≤ l) (l1 : l < 18446744073709551616) : DivOK h l 5 := by
  have eu : u32D h l 5 = h * 2305843009213693952 + l / 8 := by
    have e1 : wr IntKind.u64 (ishl IntKind.u64 h (wr IntKind.u64 (lzI 5))) = h * 2305843009213693952 := by
      have : ishl IntKind.u64 h (wr IntKind.u64 (lzI 5)) = h * 2305843009213693952 := rfl
      rw [this, wr_u]; omega
    have e2 : ishr IntKind.u64 l (wr IntKind.u64 (isub 64 (wr IntKind.u64 (lzI 5)))) = l / 8 := by
      have : ishr IntKind.u64 l (wr IntKind.u64 (isub 64 (wr IntKind.u64 (lzI 5)))) = l.fdiv 8 := rfl
      rw [this, Int.fdiv_eq_ediv_of_nonneg l (by omega)]
    unfold u32D
    rw [e1, e2]
    exact bits_join .u64 64 (by decide) wraps64 61 _ _ (by omega) (by omega) (by omega) (by omega) (by omega) (by omega)
  have ev : u10D l 5 = l * 2305843009213693952 % 18446744073709551616 := by
    have : u10D l 5 = wr IntKind.u64 (l * 2305843009213693952) := rfl
    rw [this, wr_u]
  exact divOK_of 2305843009213693952 8 2684354560 h l 5 rfl rfl rfl (by omega) (by omega) (by omega) eu ev h0 h1 l0 l1 (by omega) (by omega) (by omega)

theorem div_6 (h l : Int) (h0 : 0 ≤ h) (h1 : h < 6) (l0 : 0 ≤ l) (l1 : l < 18446744073709551616) : DivOK h l 6 := by
  have eu : u32D h l 6 = h * 2305843009213693952 + l / 8 := by
    have e1 : wr IntKind.u64 (ishl IntKind.u64 h (wr IntKind.u64 (lzI 6))) = h * 2305843009213693952 := by
      have : ishl IntKind.u64 h (wr IntKind.u64 (lzI 6)) = h * 2305843009213693952 := rfl
      rw [this, wr_u]; omega
    have e2 : ishr IntKind.u64 l (wr IntKind.u64 (isub 64 (wr IntKind.u64 (lzI 6)))) = l / 8 := by
      have : ishr IntKind.u64 l (wr IntKind.u64 (isub 64 (wr IntKind.u64 (lzI 6)))) = l.fdiv 8 := rfl
      rw [this, Int.fdiv_eq_ediv_of_nonneg l (by omega)]
    unfold u32D
    rw [e1, e2]
    exact bits_join .u64 64 (by decide) wraps64 61 _ _ (by omega) (by omega) (by omega) (by omega) (by omega) (by omega)
  have ev : u10D l 6 = l * 2305843009213693952 % 18446744073709551616 := by
    have : u10D l 6 = wr IntKind.u64 (l * 2305843009213693952) := rfl
    rw [this, wr_u]
  exact divOK_of 2305843009213693952 8 3221225472 h l 6 rfl rfl rfl (by omega) (by omega) (by omega) eu ev h0 h1 l0 l1 (by omega) (by omega) (by omega)

theorem div_7 (h l : Int) (h0 : 0 ≤ h) (h1 : h < 7) (l0 : 0 ≤ l) (l1 : l < 18446744073709551616) : DivOK h l 7 := by
  have eu : u32D h l 7 = h * 2305843009213693952 + l / 8 := by
    have e1 : wr IntKind.u64 (ishl IntKind.u64 h (wr IntKind.u64 (lzI 7))) = h * 2305843009213693952 := by
      have : ishl IntKind.u64 h (wr IntKind.u64 (lzI 7)) = h * 2305843009213693952 := rfl
      rw [this, wr_u]; omega
    have e2 : ishr IntKind.u64 l (wr IntKind.u64 (isub 64 (wr IntKind.u64 (lzI 7)))) = l / 8 := by
      have : ishr IntKind.u64 l (wr IntKind.u64 (isub 64 (wr IntKind.u64 (lzI 7)))) = l.fdiv 8 := rfl
      rw [this, Int.fdiv_eq_ediv_of_nonneg l (by omega)]
    unfold u32D
    rw [e1, e2]
    exact bits_join .u64 64 (by decide) wraps64 61 _ _ (by omega) (by omega) (by omega) (by omega) (by omega) (by omega)
  have ev : u10D l 7 = l * 2305843009213693952 % 18446744073709551616 := by
    have : u10D l 7 = wr IntKind.u64 (l * 2305843009213693952) := rfl
    rw [this, wr_u]
  exact divOK_of 2305843009213693952 8 3758096384 h l 7 rfl rfl rfl (by omega) (by omega) (by omega) eu ev h0 h1 l0 l1 (by omega) (by omega) (by omega)

theorem div_8 (h l : Int) (h0 : 0 ≤ h) (h1 : h < 8) (l0 : 0 ≤ l) (l1 : l < 18446744073709551616) : DivOK h l 8 := by
  have eu : u32D h l 8 = h * 1152921504606846976 + l / 16 := by
    have e1 : wr IntKind.u64 (ishl IntKind.u64 h (wr IntKind.u64 (lzI 8))) = h * 1152921504606846976 := by
      have : ishl IntKind.u64 h (wr IntKind.u64 (lzI 8)) = h * 1152921504606846976 := rfl
      rw [this, wr_u]; omega
    have e2 : ishr IntKind.u64 l (wr IntKind.u64 (isub 64 (wr IntKind.u64 (lzI 8)))) = l / 16 := by
      have : ishr IntKind.u64 l (wr IntKind.u64 (isub 64 (wr IntKind.u64 (lzI 8)))) = l.fdiv 16 := rfl
      rw [this, Int.fdiv_eq_ediv_of_nonneg l (by omega)]
    unfold u32D
    rw [e1, e2]
    exact bits_join .u64 64 (by decide) wraps64 60 _ _ (by omega) (by omega) (by omega) (by omega) (by omega) (by omega)
  have ev : u10D l 8 = l * 1152921504606846976 % 18446744073709551616 := by
    have : u10D l 8 = wr IntKind.u64 (l * 1152921504606846976) := rfl
    rw [this, wr_u]
  exact divOK_of 1152921504606846976 16 2147483648 h l 8 rfl rfl rfl (by omega) (by omega) (by omega) eu ev h0 h1 l0 l1 (by omega) (by omega) (by omega)

theorem div_9 (h l : Int) (h0 : 0 ≤ h) (h1 : h < 9) (l0 : 0 ≤ l) (l1 : l < 18446744073709551616) : DivOK h l 9 := by
  have eu : u32D h l 9 = h * 1152921504606846976 + l / 16 := by
    have e1 : wr IntKind.u64 (ishl IntKind.u64 h (wr IntKind.u64 (lzI 9))) = h * 1152921504606846976 := by
      have : ishl IntKind.u64 h (wr IntKind.u64 (lzI 9)) = h * 1152921504606846976 := rfl
      rw [this, wr_u]; omega
    have e2 : ishr IntKind.u64 l (wr IntKind.u64 (isub 64 (wr IntKind.u64 (lzI 9)))) = l / 16 := by
      have : ishr IntKind.u64 l (wr IntKind.u64 (isub 64 (wr IntKind.u64 (lzI 9)))) = l.fdiv 16 := rfl
      rw [this, Int.fdiv_eq_ediv_of_nonneg l (by omega)]
    unfold u32D
    rw [e1, e2]
    exact bits_join .u64 64 (by decide) wraps64 60 _ _ (by omega) (by omega) (by omega) (by omega) (by omega) (by omega)
  have ev : u10D l 9 = l * 1152921504606846976 % 18446744073709551616 := by
    have : u10D l 9 = wr IntKind.u64 (l * 1152921504606846976) := rfl
    rw [this, wr_u]
  exact divOK_of 1152921504606846976 16 2415919104 h l 9 rfl rfl rfl (by omega) (by omega) (by omega) eu ev h0 h1 l0 l1 (by omega) (by omega) (by omega)

theorem div_10 (h l : Int) (h0 : 0 ≤ h) (h1 : h < 10) (l0 : 0 ≤ l) (l1 : l < 18446744073709551616) : DivOK h l 10 := by
  have eu : u32D h l 10 = h * 1152921504606846976 + l / 16 := by
    have e1 : wr IntKind.u64 (ishl IntKind.u64 h (wr IntKind.u64 (lzI 10))) = h * 1152921504606846976 := by
      have : ishl IntKind.u64 h (wr IntKind.u64 (lzI 10)) = h * 1152921504606846976 := rfl
      rw [this, wr_u]; omega
    have e2 : ishr IntKind.u64 l (wr IntKind.u64 (isub 64 (wr IntKind.u64 (lzI 10)))) = l / 16 := by
      have : ishr IntKind.u64 l (wr IntKind.u64 (isub 64 (wr IntKind.u64 (lzI 10)))) = l.fdiv 16 := rfl
      rw [this, Int.fdiv_eq_ediv_of_nonneg l (by omega)]
    unfold u32D
    rw [e1, e2]
    exact bits_join .u64 64 (by decide) wraps64 60 _ _ (by omega) (by omega) (by omega) (by omega) (by omega) (by omega)
  have ev : u10D l 10 = l * 1152921504606846976 % 18446744073709551616 := by
    have : u10D l 10 = wr IntKind.u64 (l * 1152921504606846976) := rfl
    rw [this, wr_u]
  exact divOK_of 1152921504606846976 16 2684354560 h l 10 rfl rfl rfl (by omega) (by omega) (by omega) eu ev h0 h1 l0 l1 (by omega) (by omega) (by omega)

theorem div_11 (h l : Int) (h0 : 0 ≤ h) (h1 : h < 11) (l0 : 0 ≤ l) (l1 : l < 18446744073709551616) : DivOK h l 11 := by
  have eu : u32D h l 11 = h * 1152921504606846976 + l / 16 := by
    have e1 : wr IntKind.u64 (ishl IntKind.u64 h (wr IntKind.u64 (lzI 11))) = h * 1152921504606846976 := by
      have : ishl IntKind.u64 h (wr IntKind.u64 (lzI 11)) = h * 1152921504606846976 := rfl
      rw [this, wr_u]; omega
    have e2 : ishr IntKind.u64 l (wr IntKind.u64 (isub 64 (wr IntKind.u64 (lzI 11)))) = l / 16 := by
      have : ishr IntKind.u64 l (wr IntKind.u64 (isub 64 (wr IntKind.u64 (lzI 11)))) = l.fdiv 16 := rfl
      rw [this, Int.fdiv_eq_ediv_of_nonneg l (by omega)]
    unfold u32D
    rw [e1, e2]
    exact bits_join .u64 64 (by decide) wraps64 60 _ _ (by omega) (by omega) (by omega) (by omega) (by omega) (by omega)
  have ev : u10D l 11 = l * 1152921504606846976 % 18446744073709551616 := by
    have : u10D l 11 = wr IntKind.u64 (l * 1152921504606846976) := rfl
    rw [this, wr_u]
  exact divOK_of 1152921504606846976 16 2952790016 h l 11 rfl rfl rfl (by omega) (by omega) (by omega) eu ev h0 h1 l0 l1 (by omega) (by omega) (by omega)

theorem div_12 (h l : Int) (h0 : 0 ≤ h) (h1 : h < 12) (l0 : 0 ≤ l) (l1 : l < 18446744073709551616) : DivOK h l 12 := by
  have eu : u32D h l 12 = h * 1152921504606846976 + l / 16 := by
    have e1 : wr IntKind.u64 (ishl IntKind.u64 h (wr IntKind.u64 (lzI 12))) = h * 1152921504606846976 := by
      have : ishl IntKind.u64 h (wr IntKind.u64 (lzI 12)) = h * 1152921504606846976 := rfl
      rw [this, wr_u]; omega
    have e2 : ishr IntKind.u64 l (wr IntKind.u64 (isub 64 (wr IntKind.u64 (lzI 12)))) = l / 16 := by
      have : ishr IntKind.u64 l (wr IntKind.u64 (isub 64 (wr IntKind.u64 (lzI 12)))) = l.fdiv 16 := rfl
      rw [this, Int.fdiv_eq_ediv_of_nonneg l (by omega)]
    unfold u32D
    rw [e1, e2]
    exact bits_join .u64 64 (by decide) wraps64 60 _ _ (by omega) (by omega) (by omega) (by omega) (by omega) (by omega)
  have ev : u10D l 12 = l * 1152921504606846976 % 18446744073709551616 := by
    have : u10D l 12 = wr IntKind.u64 (l * 1152921504606846976) := rfl
    rw [this, wr_u]
  exact divOK_of 1152921504606846976 16 3221225472 h l 12 rfl rfl rfl (by omega) (by omega) (by omega) eu ev h0 h1 l0 l1 (by omega) (by omega) (by omega)

theorem div_13 (h l : Int) (h0 : 0 ≤ h) (h1 : h < 13) (l0 : 0 ≤ l) (l1 : l < 18446744073709551616) : DivOK h l 13 := by
  have eu : u32D h l 13 = h * 1152921504606846976 + l / 16 := by
    have e1 : wr IntKind.u64 (ishl IntKind.u64 h (wr IntKind.u64 (lzI 13))) = h * 1152921504606846976 := by
      have : ishl IntKind.u64 h (wr IntKind.u64 (lzI 13)) = h * 1152921504606846976 := rfl
      rw [this, wr_u]; omega
    have e2 : ishr IntKind.u64 l (wr IntKind.u64 (isub 64 (wr IntKind.u64 (lzI 13)))) = l / 16 := by
      have : ishr IntKind.u64 l (wr IntKind.u64 (isub 64 (wr IntKind.u64 (lzI 13)))) = l.fdiv 16 := rfl
      rw [this, Int.fdiv_eq_ediv_of_nonneg l (by omega)]
    unfold u32D
    rw [e1, e2]
    exact bits_join .u64 64 (by decide) wraps64 60 _ _ (by omega) (by omega) (by omega) (by omega) (by omega) (by omega)
  have ev : u10D l 13 = l * 1152921504606846976 % 18446744073709551616 := by
    have : u10D l 13 = wr IntKind.u64 (l * 1152921504606846976) := rfl
    rw [this, wr_u]
  exact divOK_of 1152921504606846976 16 3489660928 h l 13 rfl rfl rfl (by omega) (by omega) (by omega) eu ev h0 h1 l0 l1 (by omega) (by omega) (by omega)

theorem div_14 (h l : Int) (h0 : 0 ≤ h) (h1 : h < 14) (l0 : 0 ≤ l) (l1 : l < 18446744073709551616) : DivOK h l 14 := by
  have eu : u32D h l 14 = h * 1152921504606846976 + l / 16 := by
    have e1 : wr IntKind.u64 (ishl IntKind.u64 h (wr IntKind.u64 (lzI 14))) = h * 1152921504606846976 := by
      have : ishl IntKind.u64 h (wr IntKind.u64 (lzI 14)) = h * 1152921504606846976 := rfl
      rw [this, wr_u]; omega
    have e2 : ishr IntKind.u64 l (wr IntKind.u64 (isub 64 (wr IntKind.u64 (lzI 14)))) = l / 16 := by
      have : ishr IntKind.u64 l (wr IntKind.u64 (isub 64 (wr IntKind.u64 (lzI 14)))) = l.fdiv 16 := rfl
      rw [this, Int.fdiv_eq_ediv_of_nonneg l (by omega)]
    unfold u32D
    rw [e1, e2]
    exact bits_join .u64 64 (by decide) wraps64 60 _ _ (by omega) (by omega) (by omega) (by omega) (by omega) (by omega)
  have ev : u10D l 14 = l * 1152921504606846976 % 18446744073709551616 := by
    have : u10D l 14 = wr IntKind.u64 (l * 1152921504606846976) := rfl
    rw [this, wr_u]
  exact divOK_of 1152921504606846976 16 3758096384 h l 14 rfl rfl rfl (by omega) (by omega) (by omega) eu ev h0 h1 l0 l1 (by omega) (by omega) (by omega)

theorem div_15 (h l : Int) (h0 : 0 ≤ h) (h1 : h < 15) (l0 : 0 ≤ l) (l1 : l < 18446744073709551616) : DivOK h l 15 := by
  have eu : u32D h l 15 = h * 1152921504606846976 + l / 16 := by
    have e1 : wr IntKind.u64 (ishl IntKind.u64 h (wr IntKind.u64 (lzI 15))) = h * 1152921504606846976 := by
      have : ishl IntKind.u64 h (wr IntKind.u64 (lzI 15)) = h * 1152921504606846976 := rfl
      rw [this, wr_u]; omega
    have e2 : ishr IntKind.u64 l (wr IntKind.u64 (isub 64 (wr IntKind.u64 (lzI 15)))) = l / 16 := by
      have : ishr IntKind.u64 l (wr IntKind.u64 (isub 64 (wr IntKind.u64 (lzI 15)))) = l.fdiv 16 := rfl
      rw [this, Int.fdiv_eq_ediv_of_nonneg l (by omega)]
    unfold u32D
    rw [e1, e2]
    exact bits_join .u64 64 (by decide) wraps64 60 _ _ (by omega) (by omega) (by omega) (by omega) (by omega) (by omega)
  have ev : u10D l 15 = l * 1152921504606846976 % 18446744073709551616 := by
    have : u10D l 15 = wr IntKind.u64 (l * 1152921504606846976) := rfl
    rw [this, wr_u]
  exact divOK_of 1152921504606846976 16 4026531840 h l 15 rfl rfl rfl (by omega) (by omega) (by omega) eu ev h0 h1 l0 l1 (by omega) (by omega) (by omega)

theorem div_16 (h l : Int) (h0 : 0 ≤ h) (h1 : h < 16) (l0 : 0 ≤ l) (l1 : l < 18446744073709551616) : DivOK h l 16 := by
  have eu : u32D h l 16 = h * 576460752303423488 + l / 32 := by
    have e1 : wr IntKind.u64 (ishl IntKind.u64 h (wr IntKind.u64 (lzI 16))) = h * 576460752303423488 := by
      have : ishl IntKind.u64 h (wr IntKind.u64 (lzI 16)) = h * 576460752303423488 := rfl
      rw [this, wr_u]; omega
    have e2 : ishr IntKind.u64 l (wr IntKind.u64 (isub 64 (wr IntKind.u64 (lzI 16)))) = l / 32 := by
      have : ishr IntKind.u64 l (wr IntKind.u64 (isub 64 (wr IntKind.u64 (lzI 16)))) = l.fdiv 32 := rfl
      rw [this, Int.fdiv_eq_ediv_of_nonneg l (by omega)]
    unfold u32D
    rw [e1, e2]
    exact bits_join .u64 64 (by decide) wraps64 59 _ _ (by omega) (by omega) (by omega) (by omega) (by omega) (by omega)
  have ev : u10D l 16 = l * 576460752303423488 % 18446744073709551616 := by
    have : u10D l 16 = wr IntKind.u64 (l * 576460752303423488) := rfl
    rw [this, wr_u]
  exact divOK_of 576460752303423488 32 2147483648 h l 16 rfl rfl rfl (by omega) (by omega) (by omega) eu ev h0 h1 l0 l1 (by omega) (by omega) (by omega)

theorem div_ok (h l n : Int) (n1 : 1 ≤ n) (n2 : n ≤ 16) (h0 : 0 ≤ h) (h1 : h < n) (l0 : 0 ≤ l) (l1 : l < 18446744073709551616) : DivOK h l n := by
  rcases to16 n1 n2 with rfl | rfl | rfl | rfl | rfl | rfl | rfl | rfl | rfl | rfl | rfl | rfl | rfl | rfl | rfl | rfl
  · exact div_1 h l h0 h1 l0 l1
  · exact div_2 h l h0 h1 l0 l1
  · exact div_3 h l h0 h1 l0 l1
  · exact div_4 h l h0 h1 l0 l1
  · exact div_5 h l h0 h1 l0 l1
  · exact div_6 h l h0 h1 l0 l1
  · exact div_7 h l h0 h1 l0 l1
  · exact div_8 h l h0 h1 l0 l1
  · exact div_9 h l h0 h1 l0 l1
  · exact div_10 h l h0 h1 l0 l1
  · exact div_11 h l h0 h1 l0 l1
  · exact div_12 h l h0 h1 l0 l1
  · exact div_13 h l h0 h1 l0 l1
  · exact div_14 h l h0 h1 l0 l1
  · exact div_15 h l h0 h1 l0 l1
  · exact div_16 h l h0 h1 l0 l1

/-- A number of 128 bits divided by one from 1 to 16: the quotient; what is left is told as it is reckoned. -/
def remD (h l n : Int) : Int := sel (ieq h 0) (itmod l n) (ishr IntKind.u64 (r0W h l n) (wr IntKind.u64 (lzI n)))
def divT : List V → T (V × List Blk)
  | [a, b, c] => match gU a, gU b, gU c with
    | some h, some l, some n => .br (ile 1 n) (.br (ile n 16) (.br (ile 0 h) (.br (ilt h n) (.br (ile 0 l) (.br (ile l 18446744073709551615) (out (.tup [uV (divQ h l n), uV (remD h l n)])) .fail) .fail) .fail) .fail) .fail) .fail
    | _, _, _ => .fail
  | _ => .fail

theorem p53 : PureC Try.prog Gl 53 divT := by
  refine PureC.congr (pureC_body tabOK mixed Try.func53 (by kernel_rfl) (by kernel_rfl) (Γ := cxOf Gl tbD (loops 20)) (cx_ok tbD_ok _)) fun vs r h => ?_
  unfold divT at h
  split at h
  · split at h
    · rename_i a b c _ _ _ x y n e1 e2 e3
      rw [gU_some e1, gU_some e2, gU_some e3]
      obtain ⟨n1, h⟩ := sem_br_fail h
      obtain ⟨n2, h⟩ := sem_br_fail h
      obtain ⟨x0, h⟩ := sem_br_fail h
      obtain ⟨x1, h⟩ := sem_br_fail h
      obtain ⟨y0, h⟩ := sem_br_fail h
      obtain ⟨y1, h⟩ := sem_br_fail h
      rw [sem_leaf h]
      have n1' : (1 : Int) ≤ n := of_decide_eq_true n1
      have n2' : n ≤ 16 := of_decide_eq_true n2
      have x0' : (0 : Int) ≤ x := of_decide_eq_true x0
      have x1' : x < n := of_decide_eq_true x1
      have y0' : (0 : Int) ≤ y := of_decide_eq_true y0
      have y1' : y ≤ 18446744073709551615 := of_decide_eq_true y1
      have hn : ieq n 0 = false := ieq_false (by omega)
      have hx : ile n x = false := le_false x1'
      cases hz : ieq x 0 with
      | true =>
        have : x = 0 := by simpa [ieq] using hz
        have e : wr IntKind.u64 (itdiv y n) = divQ x y n := by
          unfold divQ itdiv
          rw [Int.tdiv_eq_ediv_of_nonneg y0', this, Int.zero_mul, Int.zero_add, wr_u]
          have a1 : 0 ≤ y / n := Int.ediv_nonneg y0' (by omega)
          have a2 : y / n ≤ y := Int.ediv_le_self n y0'
          omega
        have er : remD x y n = itmod y n := by unfold remD; rw [hz]; rfl
        rw [er, ← e]
        exact way53z x y n hn hx hz
      | false =>
        obtain ⟨d1, d2, d3, d4, d5, d6, d7, d8⟩ := div_ok x y n n1' n2' x0' x1' y0' (by omega)
        have er : remD x y n = ishr IntKind.u64 (r0W x y n) (wr IntKind.u64 (lzI n)) := by unfold remD; rw [hz]; rfl
        rw [er, ← d8]
        have s1 : ile 0 (wr IntKind.u64 (lzI n)) = true := le_true (wr_nonneg _)
        have s2 : ile 0 (wr IntKind.u64 (isub 64 (wr IntKind.u64 (lzI n)))) = true := le_true (wr_nonneg _)
        have t1 : ilt (wr IntKind.u64 (iadd (wr IntKind.u64 (imul 4294967296 (r1D x y n))) (u1D y n))) (wr IntKind.u64 (imul (q1D x y n) (a0D n))) = false := by rw [d3]; exact lt_false d4
        have t2 : ilt (wr IntKind.u64 (iadd (wr IntKind.u64 (imul 4294967296 (r0D x y n))) (u0D y n))) (wr IntKind.u64 (imul (q0D x y n) (a0D n))) = false := by rw [d6]; exact lt_false d7
        exact way53p x y n hn hx hz n1 n2 s1 s2 d1 d2 t1 d5 t2
    · cases h
  · cases h

end Go.Proofs.Ytdmjcpindopjdaa.Co
