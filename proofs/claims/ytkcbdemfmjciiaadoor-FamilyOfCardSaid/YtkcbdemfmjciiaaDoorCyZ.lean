/-
  Marked, Grown, Heaped: of edges and of numbers. No conditions.
-/
import Derived.Test.YtkcbdemfmjciiaaDoorCyT
import Derived.Test.YtkcbdemfmjciiaaDoorSyU
namespace Go.Proofs.YtkcbdemfmjciiaaDoor.Ed
open Go.Sy Go


/-! ### Callees that write a row of the caller's -/

theorem ile_0 (i : Nat) : ile 0 (Int.ofNat i) = true := decide_eq_true (Int.natCast_nonneg i)

end Go.Proofs.YtkcbdemfmjciiaaDoor.Ed



