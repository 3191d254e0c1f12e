/-
  No cell of these rows narrows 'for every input' (looked for: loops, veiled, ifaces, maps, wideKeys, modest, calm, conditions, laid).
  DERIVED. THE GIVEN ROWS OF THIS SEAT. 5 by the template 'for every input the law returns true; each argument reads behind the call as it read before'; 0 by the template 'total and deterministic' (their statements: YtkbgidbledjejaaGreatTotals.lean).
  GIVEN WITH THE SEED: the statements are not yours to turn. If you find one false, say at which input.
  Laid BY PROGRAM, IN A SANDBOX (cutbox-rows.mjs): the forced cells as the released guide's own fill.sh prints them over the translation 3f345b42ecde373c… (all of the seat's roots in one cut). By AI agents, Wed Nov 11 2026. No macro, syntax, notation, axiom, sorry.
-/
import Derived.Test.YtkbgidbledjejaaGreatChecked
import GoSem.Claim
import GoSem.ClaimJoined
import GoSem.ClaimMapViews
import Derived.JoinedTies
import Derived.KernelRfl
namespace Go.Proofs.YtkbgidbledjejaaGreat
/- THE CELL 'sum', in the pinned program and in every row, IS THE sha256 OF THE DUMP (.gsa) THAT YtkbgidbledjejaaGreatProg.lean LOADS. Nothing in Lean hashes anything: it is a label: what it is worth is what the hold of that sum in a sandbox is worth. -/
noncomputable def Tryz.pinned : Pinned := { name := "ytkbgidbledjejaagreat", sum := "3f345b42ecde373c79aab3c33a2e4538eb9dbb0c32fa88ac43e631f103169614", checked := Tryz.checked }
namespace Rows
def none {H : Type} : Left H := { results := [], args := [] }

/-- 'alembiclaw06.EnumCycles': WHATEVER THE INPUT: true; the input reads as it did. -/
def enumCyclesSpec : ChangeSpec := { name := "enumCycles", fn := fun _ => fun
  | [d1, d2, d3, d4] => { results := [.lit (.bool true)], args := [d1, d2, d3, d4] }
  | _ => none }
def enumCyclesRow : OpenClaim := { program := "ytkbgidbledjejaagreat", sum := "3f345b42ecde373c79aab3c33a2e4538eb9dbb0c32fa88ac43e631f103169614", func := "alembic/alembiclaw06.EnumCycles", spec := "enumCycles", unfollowed := true, recurses := true, apart := false }
def EnumCyclesSaid : Prop := enumCyclesRow.holds Tryz.pinned (OpenSpec.ofChange enumCyclesSpec)

/-- ITS FALSE NEIGHBOUR: 'it returns false'. Refute it at one input. -/
def enumCyclesWrong : ChangeSpec := { name := "enumCycles", fn := fun _ => fun
  | [d1, d2, d3, d4] => { results := [.lit (.bool false)], args := [d1, d2, d3, d4] }
  | _ => none }
def EnumCyclesWrongFalsely : Prop := enumCyclesRow.holds Tryz.pinned (OpenSpec.ofChange enumCyclesWrong)

/-- 'alembiclaw06.EnumWalks': WHATEVER THE INPUT: true; the input reads as it did. -/
def enumWalksSpec : ChangeSpec := { name := "enumWalks", fn := fun _ => fun
  | [d1, d2, d3, d4] => { results := [.lit (.bool true)], args := [d1, d2, d3, d4] }
  | _ => none }
def enumWalksRow : OpenClaim := { program := "ytkbgidbledjejaagreat", sum := "3f345b42ecde373c79aab3c33a2e4538eb9dbb0c32fa88ac43e631f103169614", func := "alembic/alembiclaw06.EnumWalks", spec := "enumWalks", unfollowed := true, recurses := true, apart := false }
def EnumWalksSaid : Prop := enumWalksRow.holds Tryz.pinned (OpenSpec.ofChange enumWalksSpec)

/-- ITS FALSE NEIGHBOUR: 'it returns false'. Refute it at one input. -/
def enumWalksWrong : ChangeSpec := { name := "enumWalks", fn := fun _ => fun
  | [d1, d2, d3, d4] => { results := [.lit (.bool false)], args := [d1, d2, d3, d4] }
  | _ => none }
def EnumWalksWrongFalsely : Prop := enumWalksRow.holds Tryz.pinned (OpenSpec.ofChange enumWalksWrong)

/-- 'alembiclaw06.EnumWhole': WHATEVER THE INPUT: true; the input reads as it did. -/
def enumWholeSpec : ChangeSpec := { name := "enumWhole", fn := fun _ => fun
  | [d1, d2, d3, d4] => { results := [.lit (.bool true)], args := [d1, d2, d3, d4] }
  | _ => none }
def enumWholeRow : OpenClaim := { program := "ytkbgidbledjejaagreat", sum := "3f345b42ecde373c79aab3c33a2e4538eb9dbb0c32fa88ac43e631f103169614", func := "alembic/alembiclaw06.EnumWhole", spec := "enumWhole", unfollowed := true, recurses := true, apart := false }
def EnumWholeSaid : Prop := enumWholeRow.holds Tryz.pinned (OpenSpec.ofChange enumWholeSpec)

/-- ITS FALSE NEIGHBOUR: 'it returns false'. Refute it at one input. -/
def enumWholeWrong : ChangeSpec := { name := "enumWhole", fn := fun _ => fun
  | [d1, d2, d3, d4] => { results := [.lit (.bool false)], args := [d1, d2, d3, d4] }
  | _ => none }
def EnumWholeWrongFalsely : Prop := enumWholeRow.holds Tryz.pinned (OpenSpec.ofChange enumWholeWrong)

/-- 'alembiclaw06.EnumNexts': WHATEVER THE INPUT: true; the input reads as it did. -/
def enumNextsSpec : ChangeSpec := { name := "enumNexts", fn := fun _ => fun
  | [d1, d2, d3, d4] => { results := [.lit (.bool true)], args := [d1, d2, d3, d4] }
  | _ => none }
def enumNextsRow : OpenClaim := { program := "ytkbgidbledjejaagreat", sum := "3f345b42ecde373c79aab3c33a2e4538eb9dbb0c32fa88ac43e631f103169614", func := "alembic/alembiclaw06.EnumNexts", spec := "enumNexts", unfollowed := true, recurses := true, apart := false }
def EnumNextsSaid : Prop := enumNextsRow.holds Tryz.pinned (OpenSpec.ofChange enumNextsSpec)

/-- ITS FALSE NEIGHBOUR: 'it returns false'. Refute it at one input. -/
def enumNextsWrong : ChangeSpec := { name := "enumNexts", fn := fun _ => fun
  | [d1, d2, d3, d4] => { results := [.lit (.bool false)], args := [d1, d2, d3, d4] }
  | _ => none }
def EnumNextsWrongFalsely : Prop := enumNextsRow.holds Tryz.pinned (OpenSpec.ofChange enumNextsWrong)

/-- 'alembiclaw06.EnumSteps': WHATEVER THE INPUT: true; the input reads as it did. -/
def enumStepsSpec : ChangeSpec := { name := "enumSteps", fn := fun _ => fun
  | [d1, d2, d3] => { results := [.lit (.bool true)], args := [d1, d2, d3] }
  | _ => none }
def enumStepsRow : OpenClaim := { program := "ytkbgidbledjejaagreat", sum := "3f345b42ecde373c79aab3c33a2e4538eb9dbb0c32fa88ac43e631f103169614", func := "alembic/alembiclaw06.EnumSteps", spec := "enumSteps", unfollowed := true, recurses := true, apart := false }
def EnumStepsSaid : Prop := enumStepsRow.holds Tryz.pinned (OpenSpec.ofChange enumStepsSpec)

/-- ITS FALSE NEIGHBOUR: 'it returns false'. Refute it at one input. -/
def enumStepsWrong : ChangeSpec := { name := "enumSteps", fn := fun _ => fun
  | [d1, d2, d3] => { results := [.lit (.bool false)], args := [d1, d2, d3] }
  | _ => none }
def EnumStepsWrongFalsely : Prop := enumStepsRow.holds Tryz.pinned (OpenSpec.ofChange enumStepsWrong)

/- THE SECOND FORM. 'bulk': how many values and letters a reading holds, each counted each time it is reached (what is shared counts as often as it is met; a slice's spare places count too). A statement '..UptoSaid' is the law's where the arguments, and the package variables that the reading takes, are together of bulk at most 1048576: NARROWER than '..Said'. Prove '..Said' where nothing that the law and all that it calls make is longer than what came in: it says more and counts as full. Else prove '..UptoSaid'. A law counts once. -/
mutual
def uptoBulk {H : Type} : DataW H → Nat
  | .lit (.string bytes) => bytes.length + 1
  | .lit _ => 1
  | .nil => 1
  | .ptr d => uptoBulk d + 1
  | .slice elems spare => uptoBulkAll elems + uptoBulkAll spare + 1
  | .agg parts => uptoBulkAll parts + 1
  | .iface _ d => uptoBulk d + 1
  | .map entries => uptoBulkEntries entries + 1
  | .held _ => 1
def uptoBulkAll {H : Type} : List (DataW H) → Nat
  | [] => 0
  | d :: r => uptoBulk d + uptoBulkAll r
def uptoBulkEntries {H : Type} : List (Lit × DataW H) → Nat
  | [] => 0
  | x :: r => uptoBulkEntry x + uptoBulkEntries r
def uptoBulkEntry {H : Type} : Lit × DataW H → Nat
  | (.string bytes, d) => bytes.length + uptoBulk d + 1
  | (_, d) => uptoBulk d + 1
 end
def uptoSmall : (H : Type) → List (DataW H) → Bool := fun _ ds => decide (uptoBulkAll ds ≤ 1048576)
def OpenSpec.upto (s : _root_.Go.ChangeSpec) : _root_.Go.OpenSpec := { _root_.Go.OpenSpec.ofChange s with cond := some uptoSmall }

/-- 'alembiclaw06.EnumCycles', WHERE WHAT IT READS IS OF BULK AT MOST 1048576: true; the input reads as it did. -/
def enumCyclesUptoRow : OpenClaim := { program := "ytkbgidbledjejaagreat", sum := "3f345b42ecde373c79aab3c33a2e4538eb9dbb0c32fa88ac43e631f103169614", func := "alembic/alembiclaw06.EnumCycles", spec := "enumCycles", unfollowed := true, recurses := true, apart := false, narrowed := true }
def EnumCyclesUptoSaid : Prop := enumCyclesUptoRow.holds Tryz.pinned (OpenSpec.upto enumCyclesSpec)

/-- 'alembiclaw06.EnumWalks', WHERE WHAT IT READS IS OF BULK AT MOST 1048576: true; the input reads as it did. -/
def enumWalksUptoRow : OpenClaim := { program := "ytkbgidbledjejaagreat", sum := "3f345b42ecde373c79aab3c33a2e4538eb9dbb0c32fa88ac43e631f103169614", func := "alembic/alembiclaw06.EnumWalks", spec := "enumWalks", unfollowed := true, recurses := true, apart := false, narrowed := true }
def EnumWalksUptoSaid : Prop := enumWalksUptoRow.holds Tryz.pinned (OpenSpec.upto enumWalksSpec)

/-- 'alembiclaw06.EnumWhole', WHERE WHAT IT READS IS OF BULK AT MOST 1048576: true; the input reads as it did. -/
def enumWholeUptoRow : OpenClaim := { program := "ytkbgidbledjejaagreat", sum := "3f345b42ecde373c79aab3c33a2e4538eb9dbb0c32fa88ac43e631f103169614", func := "alembic/alembiclaw06.EnumWhole", spec := "enumWhole", unfollowed := true, recurses := true, apart := false, narrowed := true }
def EnumWholeUptoSaid : Prop := enumWholeUptoRow.holds Tryz.pinned (OpenSpec.upto enumWholeSpec)

/-- 'alembiclaw06.EnumNexts', WHERE WHAT IT READS IS OF BULK AT MOST 1048576: true; the input reads as it did. -/
def enumNextsUptoRow : OpenClaim := { program := "ytkbgidbledjejaagreat", sum := "3f345b42ecde373c79aab3c33a2e4538eb9dbb0c32fa88ac43e631f103169614", func := "alembic/alembiclaw06.EnumNexts", spec := "enumNexts", unfollowed := true, recurses := true, apart := false, narrowed := true }
def EnumNextsUptoSaid : Prop := enumNextsUptoRow.holds Tryz.pinned (OpenSpec.upto enumNextsSpec)

/-- 'alembiclaw06.EnumSteps', WHERE WHAT IT READS IS OF BULK AT MOST 1048576: true; the input reads as it did. -/
def enumStepsUptoRow : OpenClaim := { program := "ytkbgidbledjejaagreat", sum := "3f345b42ecde373c79aab3c33a2e4538eb9dbb0c32fa88ac43e631f103169614", func := "alembic/alembiclaw06.EnumSteps", spec := "enumSteps", unfollowed := true, recurses := true, apart := false, narrowed := true }
def EnumStepsUptoSaid : Prop := enumStepsUptoRow.holds Tryz.pinned (OpenSpec.upto enumStepsSpec)

end Rows
end Go.Proofs.YtkbgidbledjejaaGreat
