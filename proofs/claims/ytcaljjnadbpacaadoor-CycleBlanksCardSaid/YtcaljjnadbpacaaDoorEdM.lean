/-
  Layer 3: the edge and the name of each number below 112, by the kernel. No conditions.
-/
import Derived.Test.YtcaljjnadbpacaaDoorEdA
namespace Go.Proofs.YtcaljjnadbpacaaDoor.Ed
open Go.Sy

theorem made71 : (List.range 112).map (fun k : Nat => (finF (evalF tab cx0 Tryd.f71 [iV (Int.ofNat k)] [])).sem) = (List.range 112).map fun k => some (eV (madeE k), []) := by kernel_rfl
theorem named70 : (List.range 112).map (fun k : Nat => (finF (evalF tab cx0 Tryd.f70 [iV (Int.ofNat k)] [])).sem) = (List.range 112).map fun k => some (.str (nameS k), []) := by kernel_rfl
theorem of31 : (List.range 112).map (fun k : Nat => (finF (evalF tab cx0r Tryd.f31 [iV (Int.ofNat k)] [])).sem) = (List.range 112).map fun k => some (.tup [eV (madeE k), iV 0], []) := by kernel_rfl
theorem of31a (n : Int) : (finF (evalF tab cx0r Tryd.f31 [iV n] [])).path [true, true, true, true] = some ([ilt n 0, ilt n 0, ilt n 0, true], (.tup [eV zeroE, iV 30], [])) := by kernel_rfl
theorem of31b (n : Int) : (finF (evalF tab cx0r Tryd.f31 [iV n] [])).path [false, false, false, true] = some ([ilt n 0, ilt n 0, ilt n 0, ile 112 n], (.tup [eV zeroE, iV 30], [])) := by kernel_rfl

end Go.Proofs.YtcaljjnadbpacaaDoor.Ed
