/-
  What the evaluator is told of this seat's program: its table of types, its listed variables. Condition: the listed variables read as listed.
-/
import Derived.Test.YtcaljjnadbpacaaDoorSyQ
import Derived.Test.YtcaljjnadbpacaaDoorSyTab
import Derived.Test.YtcaljjnadbpacaaDoorRows
import Derived.KernelRfl
namespace Go.Proofs.YtcaljjnadbpacaaDoor.Ed
open Go.Sy

def commsL : List (List UInt8) := [[82, 102, 101], [82, 102, 105], [70, 114, 101], [70, 114, 105], [67, 111, 101], [67, 111, 105]]
def endsL : List (List UInt8) := [[82, 82], [82, 87], [87, 82], [87, 87]]
def setsL : List (List UInt8) := [[114, 46, 114], [114, 46, 119], [114, 46, 114, 119], [119, 46, 114], [119, 46, 119], [119, 46, 114, 119], [114, 119, 46, 114], [114, 119, 46, 119], [114, 119, 46, 114, 119]]
def depsL : List (List UInt8) := [[68, 112, 65, 100, 100, 114, 100, 82], [68, 112, 65, 100, 100, 114, 100, 87], [68, 112, 65, 100, 100, 114, 115, 82], [68, 112, 65, 100, 100, 114, 115, 87], [68, 112, 68, 97, 116, 97, 100, 87],
  [68, 112, 68, 97, 116, 97, 115, 87], [68, 112, 67, 116, 114, 108, 100, 82], [68, 112, 67, 116, 114, 108, 100, 87], [68, 112, 67, 116, 114, 108, 115, 82], [68, 112, 67, 116, 114, 108, 115, 87]]

def Gl : Nat → V := globT [(0, textsV commsL), (1, textsV depsL), (2, textsV setsL), (3, textsV endsL)]

theorem mixed : Tryd.prog.follows .mixedOrders = true := by kernel_rfl

theorem tabOK : TabOK Tryd.prog tab := ⟨tab_ok, theP_eq⟩

theorem envG {W : World} (hL : laidMetH Tryd.prog Rows.edgeOfRow.laid W) : EnvG Gl (Live W) W := by
  have hL : laidMet Tryd.prog [("alembic/edge.comms", .agg (commsL.map fun z => .lit (.string z))), ("alembic/edge.ends", .agg (endsL.map fun z => .lit (.string z))), ("alembic/edge.sets", .agg (setsL.map fun z => .lit (.string z))), ("alembic/edge.deps", .agg (depsL.map fun z => .lit (.string z)))] W := hL
  obtain ⟨ps, hv, _, _⟩ := hL
  obtain ⟨h0, q0, hv⟩ := texts_ok (g := 0) (t := 89) (e := 9) (n := 6) (by kernel_rfl) (by kernel_rfl) (by kernel_rfl) (by kernel_rfl) (by kernel_rfl) (by kernel_rfl) hv
  obtain ⟨h3, q3, hv⟩ := texts_ok (g := 3) (t := 92) (e := 9) (n := 4) (by kernel_rfl) (by kernel_rfl) (by kernel_rfl) (by kernel_rfl) (by kernel_rfl) (by kernel_rfl) hv
  obtain ⟨h2, q2, hv⟩ := texts_ok (g := 2) (t := 91) (e := 9) (n := 9) (by kernel_rfl) (by kernel_rfl) (by kernel_rfl) (by kernel_rfl) (by kernel_rfl) (by kernel_rfl) hv
  obtain ⟨h1, q1, hv⟩ := texts_ok (g := 1) (t := 90) (e := 9) (n := 10) (by kernel_rfl) (by kernel_rfl) (by kernel_rfl) (by kernel_rfl) (by kernel_rfl) (by kernel_rfl) hv
  intro g
  match g with
  | 0 => exact h0
  | 1 => exact h1
  | 2 => exact h2
  | 3 => exact h3
  | n + 4 => trivial

end Go.Proofs.YtcaljjnadbpacaaDoor.Ed
