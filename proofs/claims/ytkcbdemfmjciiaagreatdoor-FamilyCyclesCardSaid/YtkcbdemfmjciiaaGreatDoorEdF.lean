/-
  The frame of this seat's laws: arguments read, a world for the witness. No conditions.
-/
import Derived.Test.YtkcbdemfmjciiaaGreatDoorEdD
import Derived.Test.YtkcbdemfmjciiaaGreatDoorCards
import Derived.Test.YtkcbdemfmjciiaaGreatDoorTie
import Derived.ProofKit
import Derived.OpenShut
import Derived.Deep.DeepHandedRow
namespace Go.Proofs.YtkcbdemfmjciiaaGreatDoor.Ed
open Go.Sy
set_option maxRecDepth 100000

theorem own : ownKnob Tryz.prog.godebug = none := by kernel_rfl
theorem laidOut : laidOutB Tryz.prog = true := by kernel_rfl

section
variable {H : Type} {enc : TypeId × Value → H} {W : World} {sp : Nat → Bool} {held : Bool} {r : Reach} {b0 : Nat} {v : Value} {d : DataW H} {ps : List MemPlace}

def Reads (W : World) (v : Value) (u : V) : Prop := VR (Live W) W u noK v

theorem reads_int (hval : Value.okWide Tryz.prog W r b0 3 v) (h : DataW.Trod enc Tryz.prog W 0 sp held 3 v d ps) : ∃ n : Int, Reads W v (iV n) := by
  obtain ⟨n, rfl, _⟩ := ChangeShapes.open_int Tryz.underlying3 hval h
  exact ⟨n, rfl⟩

theorem reads_text (hval : Value.okWide Tryz.prog W r b0 9 v) (h : DataW.Trod enc Tryz.prog W 0 sp held 9 v d ps) : ∃ s : List UInt8, Reads W v (.str s) ∧ s.length ≤ maxLen ∧ d = .lit (.string s) := by
  obtain ⟨s, rfl, hd, _, hs⟩ := ChangeMaps.open_string Tryz.underlying9 hval h
  exact ⟨s.data.toList, rfl, hs, hd⟩

instance : Inhabited E6 := ⟨zeroE⟩

end

end Go.Proofs.YtkcbdemfmjciiaaGreatDoor.Ed




