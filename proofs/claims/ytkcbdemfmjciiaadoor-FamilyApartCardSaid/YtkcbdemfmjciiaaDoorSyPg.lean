/-
  The program that the evaluator's maps are of. No conditions.
-/
import Derived.Test.YtkcbdemfmjciiaaDoorProg
namespace Go.Sy

@[irreducible] noncomputable def theP : Program := Go.Proofs.Tryd.prog

theorem theP_eq : Go.Proofs.Tryd.prog = theP := by unfold theP; rfl

end Go.Sy

