/-
  Layer 5: numbers up to 2^63: sums, products, as an int. No conditions.
-/
import Derived.Test.YtdmjcpindopjdaaCoQ
import Derived.Laws.MathBits
namespace Go.Proofs.Ytdmjcpindopjdaa.Co
open Go.Sy

/-- A number from 0 to 2^63. -/
def okU (x : Int) : Bool := decide (0 ≤ x) && decide (x ≤ 9223372036854775808)
def plusU (x y : Int) : Int := if 9223372036854775808 ≤ x + y then 9223372036854775808 else x + y
def prodU (x y : Int) : Int := if 9223372036854775808 ≤ x * y then 9223372036854775808 else x * y
def mulHi (x y : Int) : Int := x * y / 18446744073709551616
def mulLo (x y : Int) : Int := x * y % 18446744073709551616

theorem okU_iff {x : Int} : okU x = true ↔ 0 ≤ x ∧ x ≤ 9223372036854775808 := by simp [okU]

theorem wr_u (x : Int) : wr .u64 x = x % 18446744073709551616 := by
  unfold wr IntKind.wrap
  simp [IntKind.bits, IntKind.signed]

theorem gU_ok : ∀ v a, gU v = some a → v = uV a := fun _ _ h => gU_some h

def uuT (F : Int → Int → V) : List V → T (V × List Blk) := ap2 gU gU fun x y => .br (okU x) (.br (okU y) (out (F x y)) .fail) .fail

theorem uuT_some {F : Int → Int → V} {vs : List V} {r : V × List Blk} (h : (uuT F vs).sem = some r) : ∃ x y, vs = [uV x, uV y] ∧ okU x = true ∧ okU y = true ∧ r = (F x y, []) := by
  obtain ⟨x, y, rfl, h⟩ := ap2_some gU_ok gU_ok h
  obtain ⟨h1, h⟩ := sem_br_fail h
  obtain ⟨h2, h⟩ := sem_br_fail h
  exact ⟨x, y, rfl, h1, h2, sem_leaf h⟩

theorem tree39 (x y : Int) : (finF (evalF tab (cxOf Gl t0 []) Try.f39 [uV x, uV y] [])).sem = sel (ile (wr IntKind.u64 (isub 9223372036854775808 y)) x) (some (uV 9223372036854775808, [])) (some (uV (wr IntKind.u64 (iadd x y)), [])) := by kernel_rfl

theorem p39 : PureC Try.prog Gl 39 (uuT fun x y => uV (plusU x y)) := by
  refine PureC.congr (pureC_body tabOK mixed Try.func39 (by kernel_rfl) (by kernel_rfl) (Γ := cxOf Gl t0 []) (cx_ok t0_ok _)) fun vs r h => ?_
  obtain ⟨x, y, rfl, h1, h2, rfl⟩ := uuT_some h
  have h1 := okU_iff.1 h1
  have h2 := okU_iff.1 h2
  refine (tree39 x y).trans ?_
  have e1 : wr IntKind.u64 (isub 9223372036854775808 y) = 9223372036854775808 - y := by rw [wr_u]; unfold isub; omega
  rw [e1]
  unfold plusU
  by_cases hc : 9223372036854775808 ≤ x + y
  · rw [if_pos hc, le_true (by omega)]
    rfl
  · rw [if_neg hc, le_false (by omega)]
    have e2 : wr IntKind.u64 (iadd x y) = x + y := by rw [wr_u]; unfold iadd; omega
    rw [e2]
    rfl

theorem tree51 (x y : Int) : (finF (evalF tab (cxOf Gl t0 []) Try.f51 [uV x, uV y] [])).sem = some (.tup [uV (wr IntKind.u64 (iadd (wr IntKind.u64 (iadd (wr IntKind.u64 (imul (ishr IntKind.u64 x 32) (ishr IntKind.u64 y 32))) (ishr IntKind.u64 (wr IntKind.u64 (iadd (wr IntKind.u64 (imul (ishr IntKind.u64 x 32) (ibits BinOp.and IntKind.u64 y 4294967295))) (ishr IntKind.u64 (wr IntKind.u64 (imul (ibits BinOp.and IntKind.u64 x 4294967295) (ibits BinOp.and IntKind.u64 y 4294967295))) 32))) 32))) (ishr IntKind.u64 (wr IntKind.u64 (iadd (ibits BinOp.and IntKind.u64 (wr IntKind.u64 (iadd (wr IntKind.u64 (imul (ishr IntKind.u64 x 32) (ibits BinOp.and IntKind.u64 y 4294967295))) (ishr IntKind.u64 (wr IntKind.u64 (imul (ibits BinOp.and IntKind.u64 x 4294967295) (ibits BinOp.and IntKind.u64 y 4294967295))) 32))) 4294967295) (wr IntKind.u64 (imul (ibits BinOp.and IntKind.u64 x 4294967295) (ishr IntKind.u64 y 32))))) 32))), uV (wr IntKind.u64 (imul x y))], []) := by kernel_rfl

theorem shr32 (x : Int) : ishr IntKind.u64 x 32 = x / 4294967296 := by
  have : ishr IntKind.u64 x 32 = x.fdiv 4294967296 := rfl
  rw [this, Int.fdiv_eq_ediv_of_nonneg x (by omega)]

theorem p51 : PureC Try.prog Gl 51 (uuT fun x y => .tup [uV (mulHi x y), uV (mulLo x y)]) := by
  refine PureC.congr (pureC_body tabOK mixed Try.func51 (by kernel_rfl) (by kernel_rfl) (Γ := cxOf Gl t0 []) (cx_ok t0_ok _)) fun vs r h => ?_
  obtain ⟨x, y, rfl, h1, h2, rfl⟩ := uuT_some h
  have h1 := okU_iff.1 h1
  have h2 := okU_iff.1 h2
  refine (tree51 x y).trans ?_
  have a1 : ibits BinOp.and IntKind.u64 x 4294967295 = x % 4294967296 := and_low32 x h1.1 (by omega)
  have a2 : ibits BinOp.and IntKind.u64 y 4294967295 = y % 4294967296 := and_low32 y h2.1 (by omega)
  have a3 : ∀ z : Int, 0 ≤ z → z < 18446744073709551616 → ibits BinOp.and IntKind.u64 z 4294967295 = z % 4294967296 := fun z q1 q2 => and_low32 z q1 q2
  have hm := mul64_arith x y h1.1 (by omega) h2.1 (by omega)
  simp only [shr32, a1, a2, wr_u, imul, iadd]
  rw [a3 _ (Int.emod_nonneg _ (by omega)) (Int.emod_lt_of_pos _ (by omega)), hm]
  rfl

noncomputable def tbR1 : List (Nat × (List V → T (V × List Blk))) := [(51, uuT fun x y => .tup [uV (mulHi x y), uV (mulLo x y)]), (39, uuT fun x y => uV (plusU x y))]
theorem tbR1_ok : AllPure Try.prog Gl tbR1 := .cons p51 <| .cons p39 .nil

theorem tree66 (x y : Int) : (finF (evalF tab (cxOf Gl tbR1 []) Try.f66 [uV x, uV y] [])).sem = (sel (okU x) (sel (okU y) (sel (ilt 0 (mulHi x y)) (sel (ilt 0 (mulHi x y)) (sel (ilt 0 (mulHi x y)) (some ((uV 9223372036854775808), [])) none) none) (sel (ilt 0 (mulHi x y)) (sel (ilt 0 (mulHi x y)) (some ((uV 9223372036854775808), [])) none) (sel (ilt 0 (mulHi x y)) (some ((uV 9223372036854775808), [])) (sel (ilt 9223372036854775808 (mulLo x y)) (some ((uV 9223372036854775808), [])) (some ((uV (mulLo x y)), [])))))) none) none) := by kernel_rfl

theorem p66 : PureC Try.prog Gl 66 (uuT fun x y => uV (prodU x y)) := by
  refine PureC.congr (pureC_body tabOK mixed Try.func66 (by kernel_rfl) (by kernel_rfl) (Γ := cxOf Gl tbR1 []) (cx_ok tbR1_ok _)) fun vs r h => ?_
  obtain ⟨x, y, rfl, h1, h2, rfl⟩ := uuT_some h
  refine (tree66 x y).trans ?_
  rw [h1, h2]
  have h1 := okU_iff.1 h1
  have h2 := okU_iff.1 h2
  have hp : 0 ≤ x * y := Int.mul_nonneg h1.1 h2.1
  unfold prodU
  have hi : mulHi x y = x * y / 18446744073709551616 := rfl
  have lo : mulLo x y = x * y % 18446744073709551616 := rfl
  generalize x * y = p at *
  by_cases hc : 18446744073709551616 ≤ p
  · rw [lt_true (show 0 < mulHi x y by rw [hi]; omega), if_pos (by omega)]
    rfl
  · rw [lt_false (show mulHi x y ≤ 0 by rw [hi]; omega)]
    by_cases hd : 9223372036854775808 < p
    · rw [lt_true (show 9223372036854775808 < mulLo x y by rw [lo]; omega), if_pos (by omega)]
      rfl
    · rw [lt_false (show mulLo x y ≤ 9223372036854775808 by rw [lo]; omega)]
      have e : mulLo x y = p := by rw [lo]; omega
      rw [e]
      by_cases hz : 9223372036854775808 ≤ p
      · have : p = 9223372036854775808 := by omega
        rw [if_pos hz, this]
        rfl
      · rw [if_neg hz]
        rfl

theorem tree35 (x : Int) : (finF (evalF tab (cxOf Gl t0 []) Try.f35 [uV x] [])).sem = (sel (ile 9223372036854775808 x) (some ((.tup [(iV 0), (iV 3)]), [])) (some ((.tup [(iV (wr IntKind.i64 x)), (iV 0)]), []))) := by kernel_rfl

/-- As an int, if it is not too great. -/
def smallT : List V → T (V × List Blk) := ap1 gU fun x => .br (okU x) (.br (ile 9223372036854775808 x) (out (.tup [iV 0, iV 3])) (out (.tup [iV x, iV 0]))) .fail

theorem p35 : PureC Try.prog Gl 35 smallT := by
  refine PureC.congr (pureC_body tabOK mixed Try.func35 (by kernel_rfl) (by kernel_rfl) (Γ := cxOf Gl t0 []) (cx_ok t0_ok _)) fun vs r h => ?_
  obtain ⟨x, rfl, h⟩ := ap1_some gU_ok h
  obtain ⟨h1, h⟩ := sem_br_fail h
  have h1 := okU_iff.1 h1
  refine (tree35 x).trans ?_
  by_cases hc : 9223372036854775808 ≤ x
  · rw [le_true hc] at h ⊢
    rw [sem_leaf h]
    rfl
  · rw [le_false (by omega)] at h ⊢
    rw [sem_leaf h]
    have e : wr IntKind.i64 x = x := by
      unfold wr IntKind.wrap
      simp [IntKind.bits, IntKind.signed]
      omega
    rw [e]
    rfl

end Go.Proofs.Ytdmjcpindopjdaa.Co
