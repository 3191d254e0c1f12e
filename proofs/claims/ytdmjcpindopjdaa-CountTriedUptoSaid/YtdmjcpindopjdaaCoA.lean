/-
  What the evaluator is told of this seat's program; the functions that 'awake' comes to, each by its body; 'awake'. No conditions.
-/
import Derived.Test.YtdmjcpindopjdaaSyR
import Derived.Test.YtdmjcpindopjdaaSyTab
import Derived.Test.YtdmjcpindopjdaaRows
import Derived.Laws.Externs
import Derived.KernelRfl
namespace Go.Proofs.Ytdmjcpindopjdaa.Co
open Go.Sy

def Gl : Nat → V := fun _ => .und

theorem mixed : Try.prog.follows .mixedOrders = true := by kernel_rfl

theorem tabOK : TabOK Try.prog tab := ⟨tab_ok⟩

theorem envG {S : Nat → Prop} {W : World} : EnvG Gl S W := fun _ => trivial

/-! ### Add64 -/

def gU : V → Option Int
  | .val (.int .u64 n) => some n
  | _ => none

theorem gU_some {v : V} {n : Int} (h : gU v = some n) : v = .val (.int .u64 n) := by
  unfold gU at h
  split at h
  · simp at h; subst h; rfl
  · cases h

def uV (n : Int) : V := .val (.int .u64 n)
def addLo (x y c : Int) : Int := (x + y + c) % 18446744073709551616
def addHi (x y c : Int) : Int := (x + y + c) / 18446744073709551616

def add64T : List V → T (V × List Blk)
  | [a, b, c] => match gU a, gU b, gU c with
    | some x, some y, some z => .br (ile 0 x) (.br (ile 0 y) (.br (ile 0 z) (.br (ile z 1) (.leaf (.tup [uV (addLo x y z), uV (addHi x y z)], [])) .fail) .fail) .fail) .fail
    | _, _, _ => .fail
  | _ => .fail

theorem p52 : PureX Try.prog Gl 52 add64T := by
  intro vs cs S w v h' hS hE hv he
  unfold add64T at he
  split at he
  · split at he
    · rename_i a b c _ _ _ x y z h1 h2 h3
      obtain ⟨q1, he⟩ := sem_br_fail he
      obtain ⟨q2, he⟩ := sem_br_fail he
      obtain ⟨q3, he⟩ := sem_br_fail he
      obtain ⟨q4, he⟩ := sem_br_fail he
      have := sem_leaf he
      simp only [Prod.mk.injEq] at this
      obtain ⟨rfl, rfl⟩ := this
      obtain ⟨a', l1, rfl, hv1, b', l2, rfl, hv2, c', l3, rfl, hv3, rfl⟩ := hv
      rw [gU_some h1] at hv1
      rw [gU_some h2] at hv2
      rw [gU_some h3] at hv3
      have hv1 : a' = .int .u64 x := hv1
      have hv2 : b' = .int .u64 y := hv2
      have hv3 : c' = .int .u64 z := hv3
      subst hv1; subst hv2; subst hv3
      have q1 := of_decide_eq_true q1
      have q2 := of_decide_eq_true q2
      have q3 := of_decide_eq_true q3
      have q4 := of_decide_eq_true q4
      refine ⟨fun i b hb => by simp at hb, .inr ⟨.tuple #[.int .u64 (addLo x y z), .int .u64 (addHi x y z)], w, ?_, ?_⟩⟩
      · show (callFunc 52 #[.int .u64 x, .int .u64 y, .int .u64 z]).run Try.prog w = _
        rw [run_callFunc_extern Try.func52 (by kernel_rfl) (by kernel_rfl) (by kernel_rfl) (e := add64Entry) (by kernel_rfl), run_add64 x y z q1 q2 q3 q4]
        rfl
      · exact ⟨_, noK, S, rfl, Good.empty hS, ⟨_, rfl, _, _, rfl, rfl, _, _, rfl, rfl, rfl⟩, Ext.refl _ _ _ _⟩
    · cases he
  · cases he

/-! ### Functions by their bodies -/

def loops (n : Nat) : List (Nat × Lp) := [(0, ⟨[], 1000, [], 1000, n⟩), (1, ⟨[], 1000, [], 1000, n⟩), (2, ⟨[], 1000, [], 1000, n⟩), (3, ⟨[], 1000, [], 1000, n⟩), (4, ⟨[], 1000, [], 1000, n⟩), (5, ⟨[], 1000, [], 1000, n⟩), (6, ⟨[], 1000, [], 1000, n⟩), (7, ⟨[], 1000, [], 1000, n⟩), (8, ⟨[], 1000, [], 1000, n⟩)]

noncomputable def t0 : List (Nat × (List V → T (V × List Blk))) := [(52, add64T)]
theorem t0_ok : AllPure Try.prog Gl t0 := .consX p52 .nil
noncomputable def F58 : List V → T (V × List Blk) := fun vs => finF (evalF tab (cxOf Gl t0 (loops 130)) Try.f58 vs [])
theorem b58 : PureC Try.prog Gl 58 F58 := pureC_body tabOK mixed Try.func58 (by kernel_rfl) (by kernel_rfl) (cx_ok t0_ok _)
noncomputable def t58 : List (Nat × (List V → T (V × List Blk))) := (58, F58) :: t0
theorem t58_ok : AllPure Try.prog Gl t58 := .cons b58 t0_ok
noncomputable def F59 : List V → T (V × List Blk) := fun vs => finF (evalF tab (cxOf Gl t58 (loops 130)) Try.f59 vs [])
theorem b59 : PureC Try.prog Gl 59 F59 := pureC_body tabOK mixed Try.func59 (by kernel_rfl) (by kernel_rfl) (cx_ok t58_ok _)
noncomputable def t59 : List (Nat × (List V → T (V × List Blk))) := (59, F59) :: t58
theorem t59_ok : AllPure Try.prog Gl t59 := .cons b59 t58_ok
noncomputable def F60 : List V → T (V × List Blk) := fun vs => finF (evalF tab (cxOf Gl t59 (loops 130)) Try.f60 vs [])
theorem b60 : PureC Try.prog Gl 60 F60 := pureC_body tabOK mixed Try.func60 (by kernel_rfl) (by kernel_rfl) (cx_ok t59_ok _)
noncomputable def t60 : List (Nat × (List V → T (V × List Blk))) := (60, F60) :: t59
theorem t60_ok : AllPure Try.prog Gl t60 := .cons b60 t59_ok
noncomputable def F48 : List V → T (V × List Blk) := fun vs => finF (evalF tab (cxOf Gl t60 (loops 130)) Try.f48 vs [])
theorem b48 : PureC Try.prog Gl 48 F48 := pureC_body tabOK mixed Try.func48 (by kernel_rfl) (by kernel_rfl) (cx_ok t60_ok _)
noncomputable def t48 : List (Nat × (List V → T (V × List Blk))) := (48, F48) :: t60
theorem t48_ok : AllPure Try.prog Gl t48 := .cons b48 t60_ok
noncomputable def F57 : List V → T (V × List Blk) := fun vs => finF (evalF tab (cxOf Gl t48 (loops 130)) Try.f57 vs [])
theorem b57 : PureC Try.prog Gl 57 F57 := pureC_body tabOK mixed Try.func57 (by kernel_rfl) (by kernel_rfl) (cx_ok t48_ok _)
noncomputable def t57 : List (Nat × (List V → T (V × List Blk))) := (57, F57) :: t48
theorem t57_ok : AllPure Try.prog Gl t57 := .cons b57 t48_ok
noncomputable def F47 : List V → T (V × List Blk) := fun vs => finF (evalF tab (cxOf Gl t57 (loops 130)) Try.f47 vs [])
theorem b47 : PureC Try.prog Gl 47 F47 := pureC_body tabOK mixed Try.func47 (by kernel_rfl) (by kernel_rfl) (cx_ok t57_ok _)
noncomputable def t47 : List (Nat × (List V → T (V × List Blk))) := (47, F47) :: t57
theorem t47_ok : AllPure Try.prog Gl t47 := .cons b47 t57_ok
noncomputable def F61 : List V → T (V × List Blk) := fun vs => finF (evalF tab (cxOf Gl t47 (loops 130)) Try.f61 vs [])
theorem b61 : PureC Try.prog Gl 61 F61 := pureC_body tabOK mixed Try.func61 (by kernel_rfl) (by kernel_rfl) (cx_ok t47_ok _)
noncomputable def t61 : List (Nat × (List V → T (V × List Blk))) := (61, F61) :: t47
theorem t61_ok : AllPure Try.prog Gl t61 := .cons b61 t47_ok
noncomputable def F65 : List V → T (V × List Blk) := fun vs => finF (evalF tab (cxOf Gl t61 (loops 130)) Try.f65 vs [])
theorem b65 : PureC Try.prog Gl 65 F65 := pureC_body tabOK mixed Try.func65 (by kernel_rfl) (by kernel_rfl) (cx_ok t61_ok _)
noncomputable def t65 : List (Nat × (List V → T (V × List Blk))) := (65, F65) :: t61
theorem t65_ok : AllPure Try.prog Gl t65 := .cons b65 t61_ok
noncomputable def F62 : List V → T (V × List Blk) := fun vs => finF (evalF tab (cxOf Gl t65 (loops 130)) Try.f62 vs [])
theorem b62 : PureC Try.prog Gl 62 F62 := pureC_body tabOK mixed Try.func62 (by kernel_rfl) (by kernel_rfl) (cx_ok t65_ok _)
noncomputable def t62 : List (Nat × (List V → T (V × List Blk))) := (62, F62) :: t65
theorem t62_ok : AllPure Try.prog Gl t62 := .cons b62 t65_ok
noncomputable def F49 : List V → T (V × List Blk) := fun vs => finF (evalF tab (cxOf Gl t62 (loops 130)) Try.f49 vs [])
theorem b49 : PureC Try.prog Gl 49 F49 := pureC_body tabOK mixed Try.func49 (by kernel_rfl) (by kernel_rfl) (cx_ok t62_ok _)
noncomputable def t49 : List (Nat × (List V → T (V × List Blk))) := (49, F49) :: t62
theorem t49_ok : AllPure Try.prog Gl t49 := .cons b49 t62_ok
noncomputable def F33 : List V → T (V × List Blk) := fun vs => finF (evalF tab (cxOf Gl t49 (loops 130)) Try.f33 vs [])
theorem b33 : PureC Try.prog Gl 33 F33 := pureC_body tabOK mixed Try.func33 (by kernel_rfl) (by kernel_rfl) (cx_ok t49_ok _)
noncomputable def t33 : List (Nat × (List V → T (V × List Blk))) := (33, F33) :: t49
theorem t33_ok : AllPure Try.prog Gl t33 := .cons b33 t49_ok
noncomputable def F46 : List V → T (V × List Blk) := fun vs => finF (evalF tab (cxOf Gl t33 (loops 130)) Try.f46 vs [])
theorem b46 : PureC Try.prog Gl 46 F46 := pureC_body tabOK mixed Try.func46 (by kernel_rfl) (by kernel_rfl) (cx_ok t33_ok _)
noncomputable def t46 : List (Nat × (List V → T (V × List Blk))) := (46, F46) :: t33
theorem t46_ok : AllPure Try.prog Gl t46 := .cons b46 t33_ok
noncomputable def F31 : List V → T (V × List Blk) := fun vs => finF (evalF tab (cxOf Gl t46 (loops 130)) Try.f31 vs [])
theorem b31 : PureC Try.prog Gl 31 F31 := pureC_body tabOK mixed Try.func31 (by kernel_rfl) (by kernel_rfl) (cx_ok t46_ok _)
noncomputable def t31 : List (Nat × (List V → T (V × List Blk))) := (31, F31) :: t46
theorem t31_ok : AllPure Try.prog Gl t31 := .cons b31 t46_ok
noncomputable def F12 : List V → T (V × List Blk) := fun vs => finF (evalF tab (cxOf Gl t31 (loops 130)) Try.f12 vs [])
theorem b12 : PureC Try.prog Gl 12 F12 := pureC_body tabOK mixed Try.func12 (by kernel_rfl) (by kernel_rfl) (cx_ok t31_ok _)
noncomputable def t12 : List (Nat × (List V → T (V × List Blk))) := (12, F12) :: t31
theorem t12_ok : AllPure Try.prog Gl t12 := .cons b12 t31_ok
noncomputable def F51 : List V → T (V × List Blk) := fun vs => finF (evalF tab (cxOf Gl t12 (loops 130)) Try.f51 vs [])
theorem b51 : PureC Try.prog Gl 51 F51 := pureC_body tabOK mixed Try.func51 (by kernel_rfl) (by kernel_rfl) (cx_ok t12_ok _)
noncomputable def t51 : List (Nat × (List V → T (V × List Blk))) := (51, F51) :: t12
theorem t51_ok : AllPure Try.prog Gl t51 := .cons b51 t12_ok
noncomputable def F39 : List V → T (V × List Blk) := fun vs => finF (evalF tab (cxOf Gl t51 (loops 130)) Try.f39 vs [])
theorem b39 : PureC Try.prog Gl 39 F39 := pureC_body tabOK mixed Try.func39 (by kernel_rfl) (by kernel_rfl) (cx_ok t51_ok _)
noncomputable def t39 : List (Nat × (List V → T (V × List Blk))) := (39, F39) :: t51
theorem t39_ok : AllPure Try.prog Gl t39 := .cons b39 t51_ok
noncomputable def F66 : List V → T (V × List Blk) := fun vs => finF (evalF tab (cxOf Gl t39 (loops 130)) Try.f66 vs [])
theorem b66 : PureC Try.prog Gl 66 F66 := pureC_body tabOK mixed Try.func66 (by kernel_rfl) (by kernel_rfl) (cx_ok t39_ok _)
noncomputable def t66 : List (Nat × (List V → T (V × List Blk))) := (66, F66) :: t39
theorem t66_ok : AllPure Try.prog Gl t66 := .cons b66 t39_ok
noncomputable def F63 : List V → T (V × List Blk) := fun vs => finF (evalF tab (cxOf Gl t66 (loops 130)) Try.f63 vs [])
theorem b63 : PureC Try.prog Gl 63 F63 := pureC_body tabOK mixed Try.func63 (by kernel_rfl) (by kernel_rfl) (cx_ok t66_ok _)
noncomputable def t63 : List (Nat × (List V → T (V × List Blk))) := (63, F63) :: t66
theorem t63_ok : AllPure Try.prog Gl t63 := .cons b63 t66_ok
noncomputable def F50 : List V → T (V × List Blk) := fun vs => finF (evalF tab (cxOf Gl t63 (loops 130)) Try.f50 vs [])
theorem b50 : PureC Try.prog Gl 50 F50 := pureC_body tabOK mixed Try.func50 (by kernel_rfl) (by kernel_rfl) (cx_ok t63_ok _)
noncomputable def t50 : List (Nat × (List V → T (V × List Blk))) := (50, F50) :: t63
theorem t50_ok : AllPure Try.prog Gl t50 := .cons b50 t63_ok
noncomputable def F34 : List V → T (V × List Blk) := fun vs => finF (evalF tab (cxOf Gl t50 (loops 130)) Try.f34 vs [])
theorem b34 : PureC Try.prog Gl 34 F34 := pureC_body tabOK mixed Try.func34 (by kernel_rfl) (by kernel_rfl) (cx_ok t50_ok _)
noncomputable def t34 : List (Nat × (List V → T (V × List Blk))) := (34, F34) :: t50
theorem t34_ok : AllPure Try.prog Gl t34 := .cons b34 t50_ok
noncomputable def F35 : List V → T (V × List Blk) := fun vs => finF (evalF tab (cxOf Gl t34 (loops 130)) Try.f35 vs [])
theorem b35 : PureC Try.prog Gl 35 F35 := pureC_body tabOK mixed Try.func35 (by kernel_rfl) (by kernel_rfl) (cx_ok t34_ok _)
noncomputable def t35 : List (Nat × (List V → T (V × List Blk))) := (35, F35) :: t34
theorem t35_ok : AllPure Try.prog Gl t35 := .cons b35 t34_ok
noncomputable def F56 : List V → T (V × List Blk) := fun vs => finF (evalF tab (cxOf Gl t35 (loops 130)) Try.f56 vs [])
theorem b56 : PureC Try.prog Gl 56 F56 := pureC_body tabOK mixed Try.func56 (by kernel_rfl) (by kernel_rfl) (cx_ok t35_ok _)
noncomputable def t56 : List (Nat × (List V → T (V × List Blk))) := (56, F56) :: t35
theorem t56_ok : AllPure Try.prog Gl t56 := .cons b56 t35_ok
noncomputable def F41 : List V → T (V × List Blk) := fun vs => finF (evalF tab (cxOf Gl t56 (loops 130)) Try.f41 vs [])
theorem b41 : PureC Try.prog Gl 41 F41 := pureC_body tabOK mixed Try.func41 (by kernel_rfl) (by kernel_rfl) (cx_ok t56_ok _)
noncomputable def t41 : List (Nat × (List V → T (V × List Blk))) := (41, F41) :: t56
theorem t41_ok : AllPure Try.prog Gl t41 := .cons b41 t56_ok
noncomputable def F67 : List V → T (V × List Blk) := fun vs => finF (evalF tab (cxOf Gl t41 (loops 130)) Try.f67 vs [])
theorem b67 : PureC Try.prog Gl 67 F67 := pureC_body tabOK mixed Try.func67 (by kernel_rfl) (by kernel_rfl) (cx_ok t41_ok _)
noncomputable def t67 : List (Nat × (List V → T (V × List Blk))) := (67, F67) :: t41
theorem t67_ok : AllPure Try.prog Gl t67 := .cons b67 t41_ok
noncomputable def F64 : List V → T (V × List Blk) := fun vs => finF (evalF tab (cxOf Gl t67 (loops 130)) Try.f64 vs [])
theorem b64 : PureC Try.prog Gl 64 F64 := pureC_body tabOK mixed Try.func64 (by kernel_rfl) (by kernel_rfl) (cx_ok t67_ok _)
noncomputable def t64 : List (Nat × (List V → T (V × List Blk))) := (64, F64) :: t67
theorem t64_ok : AllPure Try.prog Gl t64 := .cons b64 t67_ok
noncomputable def F53 : List V → T (V × List Blk) := fun vs => finF (evalF tab (cxOf Gl t64 (loops 130)) Try.f53 vs [])
theorem b53 : PureC Try.prog Gl 53 F53 := pureC_body tabOK mixed Try.func53 (by kernel_rfl) (by kernel_rfl) (cx_ok t64_ok _)
noncomputable def t53 : List (Nat × (List V → T (V × List Blk))) := (53, F53) :: t64
theorem t53_ok : AllPure Try.prog Gl t53 := .cons b53 t64_ok
noncomputable def F36 : List V → T (V × List Blk) := fun vs => finF (evalF tab (cxOf Gl t53 (loops 130)) Try.f36 vs [])
theorem b36 : PureC Try.prog Gl 36 F36 := pureC_body tabOK mixed Try.func36 (by kernel_rfl) (by kernel_rfl) (cx_ok t53_ok _)
noncomputable def t36 : List (Nat × (List V → T (V × List Blk))) := (36, F36) :: t53
theorem t36_ok : AllPure Try.prog Gl t36 := .cons b36 t53_ok
noncomputable def F16 : List V → T (V × List Blk) := fun vs => finF (evalF tab (cxOf Gl t36 (loops 130)) Try.f16 vs [])
theorem b16 : PureC Try.prog Gl 16 F16 := pureC_body tabOK mixed Try.func16 (by kernel_rfl) (by kernel_rfl) (cx_ok t36_ok _)
noncomputable def t16 : List (Nat × (List V → T (V × List Blk))) := (16, F16) :: t36
theorem t16_ok : AllPure Try.prog Gl t16 := .cons b16 t36_ok
noncomputable def F17 : List V → T (V × List Blk) := fun vs => finF (evalF tab (cxOf Gl t16 (loops 130)) Try.f17 vs [])
theorem b17 : PureC Try.prog Gl 17 F17 := pureC_body tabOK mixed Try.func17 (by kernel_rfl) (by kernel_rfl) (cx_ok t16_ok _)
noncomputable def t17 : List (Nat × (List V → T (V × List Blk))) := (17, F17) :: t16
theorem t17_ok : AllPure Try.prog Gl t17 := .cons b17 t16_ok

theorem awake15 : (finF (evalF tab (cxOf Gl t17 (loops 130)) Try.f15 [] [])).sem = some (bV true, []) := by kernel_rfl

end Go.Proofs.Ytdmjcpindopjdaa.Co
