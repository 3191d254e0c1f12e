/-
  Layer 5: products of matrices of two by two. No conditions.
-/
import Derived.Test.YtdmjcpindopjdaaCoR
namespace Go.Proofs.Ytdmjcpindopjdaa.Co
open Go.Sy

noncomputable def tbS1 : List (Nat × (List V → T (V × List Blk))) := [(66, uuT fun x y => uV (prodU x y)), (39, uuT fun x y => uV (plusU x y))]
theorem tbS1_ok : AllPure Try.prog Gl tbS1 := .cons p66 <| .cons p39 .nil

theorem tree63 (a0 a1 a2 a3 b0 b1 b2 b3 : Int) : (finF (evalF tab (cxOf Gl tbS1 (loops 10)) Try.f63 [.agg [uV a0, uV a1, uV a2, uV a3], .agg [uV b0, uV b1, uV b2, uV b3]] [])).sem =
  (sel (okU a0) (sel (okU b0) (sel (okU 0) (sel (okU (prodU a0 b0)) (sel (okU a1) (sel (okU b2) (sel (okU (plusU 0 (prodU a0 b0))) (sel (okU (prodU a1 b2)) (sel (okU a0) (sel (okU b1) (sel (okU 0) (sel (okU (prodU a0 b1)) (sel (okU a1) (sel (okU b3) (sel (okU (plusU 0 (prodU a0 b1))) (sel (okU (prodU a1 b3)) (sel (okU a2) (sel (okU b0) (sel (okU 0) (sel (okU (prodU a2 b0)) (sel (okU a3) (sel (okU b2) (sel (okU (plusU 0 (prodU a2 b0))) (sel (okU (prodU a3 b2)) (sel (okU a2) (sel (okU b1) (sel (okU 0) (sel (okU (prodU a2 b1)) (sel (okU a3) (sel (okU b3) (sel (okU (plusU 0 (prodU a2 b1))) (sel (okU (prodU a3 b3)) (some ((.agg [uV (plusU (plusU 0 (prodU a0 b0)) (prodU a1 b2)), uV (plusU (plusU 0 (prodU a0 b1)) (prodU a1 b3)), uV (plusU (plusU 0 (prodU a2 b0)) (prodU a3 b2)), uV (plusU (plusU 0 (prodU a2 b1)) (prodU a3 b3))]), [])) none) none) none) none) none) none) none) none) none) none) none) none) none) none) none) none) none) none) none) none) none) none) none) none) none) none) none) none) none) none) none) none) := by kernel_rfl

theorem okU_plus {x y : Int} (hx : okU x = true) (hy : okU y = true) : okU (plusU x y) = true := by
  have hx := okU_iff.1 hx
  have hy := okU_iff.1 hy
  refine okU_iff.2 ?_
  unfold plusU
  split <;> omega

theorem okU_prod {x y : Int} (hx : okU x = true) (hy : okU y = true) : okU (prodU x y) = true := by
  have hx := okU_iff.1 hx
  have hy := okU_iff.1 hy
  have hp : 0 ≤ x * y := Int.mul_nonneg hx.1 hy.1
  refine okU_iff.2 ?_
  unfold prodU
  split <;> omega

/-- Matrices of two by two. -/
structure M4 where
  a : Int
  b : Int
  c : Int
  d : Int

def M4.ok (m : M4) : Bool := okU m.a && (okU m.b && (okU m.c && okU m.d))
def M4.v (m : M4) : V := .agg [uV m.a, uV m.b, uV m.c, uV m.d]
/-- A product, its numbers up to 2^63. -/
def M4.mul (m k : M4) : M4 := ⟨plusU (plusU 0 (prodU m.a k.a)) (prodU m.b k.c), plusU (plusU 0 (prodU m.a k.b)) (prodU m.b k.d), plusU (plusU 0 (prodU m.c k.a)) (prodU m.d k.c), plusU (plusU 0 (prodU m.c k.b)) (prodU m.d k.d)⟩

theorem M4.ok_iff {m : M4} : m.ok = true ↔ okU m.a = true ∧ okU m.b = true ∧ okU m.c = true ∧ okU m.d = true := by simp [M4.ok]

theorem M4.ok_mul {m k : M4} (hm : m.ok = true) (hk : k.ok = true) : (m.mul k).ok = true := by
  obtain ⟨a1, a2, a3, a4⟩ := M4.ok_iff.1 hm
  obtain ⟨b1, b2, b3, b4⟩ := M4.ok_iff.1 hk
  have z : okU 0 = true := rfl
  exact M4.ok_iff.2 ⟨okU_plus (okU_plus z (okU_prod a1 b1)) (okU_prod a2 b3), okU_plus (okU_plus z (okU_prod a1 b2)) (okU_prod a2 b4), okU_plus (okU_plus z (okU_prod a3 b1)) (okU_prod a4 b3), okU_plus (okU_plus z (okU_prod a3 b2)) (okU_prod a4 b4)⟩

theorem times63 (m k : M4) (hm : m.ok = true) (hk : k.ok = true) : (finF (evalF tab (cxOf Gl tbS1 (loops 10)) Try.f63 [m.v, k.v] [])).sem = some ((m.mul k).v, []) := by
  obtain ⟨a1, a2, a3, a4⟩ := M4.ok_iff.1 hm
  obtain ⟨b1, b2, b3, b4⟩ := M4.ok_iff.1 hk
  have z : okU 0 = true := rfl
  have hP := fun {x y : Int} (hx : okU x = true) (hy : okU y = true) => okU_prod hx hy
  have hS := fun {x y : Int} (hx : okU x = true) (hy : okU y = true) => okU_plus (okU_plus z hx) hy
  refine (tree63 m.a m.b m.c m.d k.a k.b k.c k.d).trans ?_
  simp only [a1, a2, a3, a4, b1, b2, b3, b4, z, okU_prod, okU_plus, sel_true]
  rfl

def gM : V → Option M4
  | .agg [a, b, c, d] => match gU a, gU b, gU c, gU d with
    | some a, some b, some c, some d => some ⟨a, b, c, d⟩
    | _, _, _, _ => none
  | _ => none

theorem gM_ok : ∀ v m, gM v = some m → v = m.v := by
  intro v m h
  unfold gM at h
  split at h
  · split at h
    · rename_i h1 h2 h3 h4
      simp only [Option.some.injEq] at h
      subst h
      rw [gU_some h1, gU_some h2, gU_some h3, gU_some h4]
      rfl
    · cases h
  · cases h

def mulT : List V → T (V × List Blk) := ap2 gM gM fun m k => .br m.ok (.br k.ok (out (m.mul k).v) .fail) .fail

theorem p63 : PureC Try.prog Gl 63 mulT := by
  refine PureC.congr (pureC_body tabOK mixed Try.func63 (by kernel_rfl) (by kernel_rfl) (Γ := cxOf Gl tbS1 (loops 10)) (cx_ok tbS1_ok _)) fun vs r h => ?_
  obtain ⟨m, k, rfl, h⟩ := ap2_some gM_ok gM_ok h
  obtain ⟨h1, h⟩ := sem_br_fail h
  obtain ⟨h2, h⟩ := sem_br_fail h
  rw [sem_leaf h]
  exact times63 m k h1 h2

end Go.Proofs.Ytdmjcpindopjdaa.Co
