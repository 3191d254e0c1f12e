/-
  Layer 3: the law EdgeLegal as a function. No conditions.
-/
import Derived.Test.YtcaljjnadbpacaaDoorEdJ
namespace Go.Proofs.YtcaljjnadbpacaaDoor.Ed
open Go.Sy

noncomputable def cx10 : Cx := cxOf Gl tb10 []

theorem law7a (e : E6) : (finF (evalF tab cx10 Tryd.f7 [iV 1, eV e] [])).path (List.replicate 19 true) = some ([true, true, beqB (legR 1 e) (legR 1 e), beqB (legR 1 e) (legR 1 e), beqB (legR 1 e) (legR 1 e), beqB (legR 1 e) (legR 1 e),
    ieq (legF 1 e) (legF 1 e), ieq (legF 1 e) (legF 1 e), ieq (legF 1 e) (legF 1 e), ieq (legF 1 e) (legF 1 e), true, true, true, true, true, true, true, true, true], (bV true, [])) := by kernel_rfl

theorem law7b (e : E6) : (finF (evalF tab cx10 Tryd.f7 [iV 2, eV e] [])).path (false :: true :: false :: List.replicate 18 true) = some ([false, true, false, true, beqB (legR 2 e) (legR 2 e), beqB (legR 2 e) (legR 2 e), beqB (legR 2 e) (legR 2 e), beqB (legR 2 e) (legR 2 e),
    ieq (legF 2 e) (legF 2 e), ieq (legF 2 e) (legF 2 e), ieq (legF 2 e) (legF 2 e), ieq (legF 2 e) (legF 2 e), true, true, true, true, true, true, true, true, true], (bV true, [])) := by kernel_rfl
theorem law7c (a : Int) (e : E6) : (finF (evalF tab cx10 Tryd.f7 [iV a, eV e] [])).path (false :: false :: false :: false :: List.replicate 17 true) = some ([ieq a 1, ieq a 2, ieq a 1, ieq a 2,
    beqB (legR a e) (legR a e), beqB (legR a e) (legR a e), beqB (legR a e) (legR a e), beqB (legR a e) (legR a e),
    ieq (legF a e) (legF a e), ieq (legF a e) (legF a e), ieq (legF a e) (legF a e), ieq (legF a e) (legF a e), true, true, true, true, true, true, true, true, true], (bV true, [])) := by kernel_rfl

theorem law7 (a : Int) (e : E6) : (finF (evalF tab cx10 Tryd.f7 [iV a, eV e] [])).sem = some (bV true, []) := by
  cases h1 : ieq a 1 with
  | true =>
    have h0 : a = 1 := by simpa only [ieq, beq_iff_eq] using h1
    subst h0
    exact sem_of_path (law7a e) (by simp only [beqB_self, ieq_self]; rfl)
  | false =>
    cases h2 : ieq a 2 with
    | true =>
      have h0 : a = 2 := by simpa only [ieq, beq_iff_eq] using h2
      subst h0
      exact sem_of_path (law7b e) (by simp only [beqB_self, ieq_self]; rfl)
    | false => exact sem_of_path (law7c a e) (by simp only [beqB_self, ieq_self, h1, h2]; rfl)

theorem p7 : PureC Tryd.prog Gl 7 (ap2 gI toE fun _ _ => out (bV true)) := by
  refine PureC.congr (pureC_body tabOK mixed Tryd.func7 (by kernel_rfl) (by kernel_rfl) (Γ := cx10) (cx_ok tb10_ok _)) fun vs r h => ?_
  obtain ⟨a, e, rfl, h⟩ := ap2_some gI_ok toE_ok h
  rw [sem_leaf h]
  exact law7 a e

end Go.Proofs.YtcaljjnadbpacaaDoor.Ed
