/-
  The program that the evaluator's maps are of. No conditions.
-/
import Derived.Test.YtkcbdemfmjciiaaGreatDoorProg
namespace Go.Sy

@[irreducible] noncomputable def theP : Program := Go.Proofs.Tryz.prog

theorem theP_eq : Go.Proofs.Tryz.prog = theP := by unfold theP; rfl

end Go.Sy

