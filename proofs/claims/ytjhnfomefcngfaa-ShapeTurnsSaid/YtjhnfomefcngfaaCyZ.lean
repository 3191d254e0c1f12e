/-
  Marked, Grown, Heaped: of edges and of numbers. No conditions.
-/
import Derived.Test.YtjhnfomefcngfaaCyT
import Derived.Test.YtjhnfomefcngfaaSyU
namespace Go.Proofs.Ytjhnfomefcngfaa.Ed
open Go.Sy Go
theorem ile_0 (i:Nat):ile 0 (Int.ofNat i) = true:=decide_eq_true (Int.natCast_nonneg i)
end Go.Proofs.Ytjhnfomefcngfaa.Ed
