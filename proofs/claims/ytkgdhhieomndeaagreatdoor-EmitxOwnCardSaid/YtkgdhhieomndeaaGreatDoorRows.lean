/-
  NARROWER THAN 'FOR EVERY INPUT', by the rows' own cells (each row's printed sentence says how): EmitxTests: laid · EmitxOwn: laid.
  DERIVED. THE GIVEN ROWS OF THIS SEAT. 2 by the template 'for every input the law returns true; each argument reads behind the call as it read before'; 0 by the template 'total and deterministic' (their statements: YtkgdhhieomndeaaGreatDoorTotals.lean).
  GIVEN WITH THE SEED: the statements are not yours to turn. If you find one false, say at which input.
  Laid BY PROGRAM, IN A SANDBOX (cutbox-rows.mjs): the forced cells as the released guide's own fill.sh prints them over the translation 4ecb4cba05a57376… (all of the seat's roots in one cut). By AI agents, Wed Nov 11 2026. No macro, syntax, notation, axiom, sorry.
-/
import Derived.Test.YtkgdhhieomndeaaGreatDoorChecked
import GoSem.Claim
import GoSem.ClaimJoined
import GoSem.ClaimMapViews
import Derived.JoinedTies
import Derived.KernelRfl
namespace Go.Proofs.YtkgdhhieomndeaaGreatDoor
/- THE CELL 'sum', in the pinned program and in every row, IS THE sha256 OF THE DUMP (.gsa) THAT YtkgdhhieomndeaaGreatDoorProg.lean LOADS. Nothing in Lean hashes anything: it is a label: what it is worth is what the hold of that sum in a sandbox is worth. -/
noncomputable def Tryz.pinned : Pinned := { name := "ytkgdhhieomndeaagreatdoor", sum := "4ecb4cba05a57376d7218749ab8526babf3e5669ca26f46fa4a9d50e7691744a", checked := Tryz.checked }
namespace Rows
def none {H : Type} : Left H := { results := [], args := [] }

/- WHAT THE LISTED PACKAGE-LEVEL VARIABLES READ AS WHEN THE CALL BEGINS. Each datum BY PROGRAM (the guide's laid-datum.mjs) off the statement by which the dump's own 'gosem.cut.vars' lays the variable. In a bare row this is a premise. The card (YtkgdhhieomndeaaGreatDoorCards.lean) ties it to the program's text. -/
def laid_alembic_edge_comms {H : Type} : DataW H := .agg [.lit (.string [82, 102, 101]), .lit (.string [82, 102, 105]), .lit (.string [70, 114, 101]), .lit (.string [70, 114, 105]), .lit (.string [67, 111, 101]), .lit (.string [67, 111, 105])]
def laid_alembic_edge_ends {H : Type} : DataW H := .agg [.lit (.string [82, 82]), .lit (.string [82, 87]), .lit (.string [87, 82]), .lit (.string [87, 87])]
def laid_alembic_edge_sets {H : Type} : DataW H := .agg [.lit (.string [114, 46, 114]), .lit (.string [114, 46, 119]), .lit (.string [114, 46, 114, 119]), .lit (.string [119, 46, 114]), .lit (.string [119, 46, 119]), .lit (.string [119, 46, 114, 119]), .lit (.string [114, 119, 46, 114]), .lit (.string [114, 119, 46, 119]), .lit (.string [114, 119, 46, 114, 119])]
def laid_alembic_edge_deps {H : Type} : DataW H := .agg [.lit (.string [68, 112, 65, 100, 100, 114, 100, 82]), .lit (.string [68, 112, 65, 100, 100, 114, 100, 87]), .lit (.string [68, 112, 65, 100, 100, 114, 115, 82]), .lit (.string [68, 112, 65, 100, 100, 114, 115, 87]), .lit (.string [68, 112, 68, 97, 116, 97, 100, 87]), .lit (.string [68, 112, 68, 97, 116, 97, 115, 87]), .lit (.string [68, 112, 67, 116, 114, 108, 100, 82]), .lit (.string [68, 112, 67, 116, 114, 108, 100, 87]), .lit (.string [68, 112, 67, 116, 114, 108, 115, 82]), .lit (.string [68, 112, 67, 116, 114, 108, 115, 87])]

/-- 'alembiclaw11.EmitxTests': WHATEVER THE INPUT: true; the input reads as it did. -/
def emitxTestsSpec : ChangeSpec := { name := "emitxTests", fn := fun _ => fun
  | [d1, d2] => { results := [.lit (.bool true)], args := [d1, d2] }
  | _ => none }
def emitxTestsRow : OpenClaim := { program := "ytkgdhhieomndeaagreatdoor", sum := "4ecb4cba05a57376d7218749ab8526babf3e5669ca26f46fa4a9d50e7691744a", func := "alembic/alembiclaw11.EmitxTests", spec := "emitxTests", inPlace := ["internal/abi.NoEscape", "internal/bytealg.MakeNoZero"], unfollowed := true, recurses := true, named := ["alembic/edge.comms", "alembic/edge.deps", "alembic/edge.sets", "alembic/edge.ends"], apart := false, laid := [("alembic/edge.comms", laid_alembic_edge_comms), ("alembic/edge.ends", laid_alembic_edge_ends), ("alembic/edge.sets", laid_alembic_edge_sets), ("alembic/edge.deps", laid_alembic_edge_deps)] }
def EmitxTestsSaid : Prop := emitxTestsRow.holds Tryz.pinned (OpenSpec.ofChange emitxTestsSpec)

/-- ITS FALSE NEIGHBOUR: 'it returns false'. Refute it at one input. -/
def emitxTestsWrong : ChangeSpec := { name := "emitxTests", fn := fun _ => fun
  | [d1, d2] => { results := [.lit (.bool false)], args := [d1, d2] }
  | _ => none }
def EmitxTestsWrongFalsely : Prop := emitxTestsRow.holds Tryz.pinned (OpenSpec.ofChange emitxTestsWrong)

/-- 'alembiclaw11.EmitxOwn': WHATEVER THE INPUT: true; the input reads as it did. -/
def emitxOwnSpec : ChangeSpec := { name := "emitxOwn", fn := fun _ => fun
  | [d] => { results := [.lit (.bool true)], args := [d] }
  | _ => none }
def emitxOwnRow : OpenClaim := { program := "ytkgdhhieomndeaagreatdoor", sum := "4ecb4cba05a57376d7218749ab8526babf3e5669ca26f46fa4a9d50e7691744a", func := "alembic/alembiclaw11.EmitxOwn", spec := "emitxOwn", inPlace := ["internal/abi.NoEscape", "internal/bytealg.MakeNoZero"], unfollowed := true, recurses := true, named := ["alembic/edge.comms", "alembic/edge.deps", "alembic/edge.sets", "alembic/edge.ends"], apart := false, laid := [("alembic/edge.comms", laid_alembic_edge_comms), ("alembic/edge.ends", laid_alembic_edge_ends), ("alembic/edge.sets", laid_alembic_edge_sets), ("alembic/edge.deps", laid_alembic_edge_deps)] }
def EmitxOwnSaid : Prop := emitxOwnRow.holds Tryz.pinned (OpenSpec.ofChange emitxOwnSpec)

/-- ITS FALSE NEIGHBOUR: 'it returns false'. Refute it at one input. -/
def emitxOwnWrong : ChangeSpec := { name := "emitxOwn", fn := fun _ => fun
  | [d] => { results := [.lit (.bool false)], args := [d] }
  | _ => none }
def EmitxOwnWrongFalsely : Prop := emitxOwnRow.holds Tryz.pinned (OpenSpec.ofChange emitxOwnWrong)

/- THE SECOND FORM. 'bulk': how many values and letters a reading holds, each counted each time it is reached (what is shared counts as often as it is met; a slice's spare places count too). A statement '..UptoSaid' is the law's where the arguments, and the package variables that the reading takes, are together of bulk at most 1048576: NARROWER than '..Said'. Prove '..Said' where nothing that the law and all that it calls make is longer than what came in: it says more and counts as full. Else prove '..UptoSaid'. A law counts once. -/
mutual
def uptoBulk {H : Type} : DataW H → Nat
  | .lit (.string bytes) => bytes.length + 1
  | .lit _ => 1
  | .nil => 1
  | .ptr d => uptoBulk d + 1
  | .slice elems spare => uptoBulkAll elems + uptoBulkAll spare + 1
  | .agg parts => uptoBulkAll parts + 1
  | .iface _ d => uptoBulk d + 1
  | .map entries => uptoBulkEntries entries + 1
  | .held _ => 1
def uptoBulkAll {H : Type} : List (DataW H) → Nat
  | [] => 0
  | d :: r => uptoBulk d + uptoBulkAll r
def uptoBulkEntries {H : Type} : List (Lit × DataW H) → Nat
  | [] => 0
  | x :: r => uptoBulkEntry x + uptoBulkEntries r
def uptoBulkEntry {H : Type} : Lit × DataW H → Nat
  | (.string bytes, d) => bytes.length + uptoBulk d + 1
  | (_, d) => uptoBulk d + 1
 end
def uptoSmall : (H : Type) → List (DataW H) → Bool := fun _ ds => decide (uptoBulkAll ds ≤ 1048576)
def OpenSpec.upto (s : _root_.Go.ChangeSpec) : _root_.Go.OpenSpec := { _root_.Go.OpenSpec.ofChange s with cond := some uptoSmall }

/-- 'alembiclaw11.EmitxTests', WHERE WHAT IT READS IS OF BULK AT MOST 1048576: true; the input reads as it did. -/
def emitxTestsUptoRow : OpenClaim := { program := "ytkgdhhieomndeaagreatdoor", sum := "4ecb4cba05a57376d7218749ab8526babf3e5669ca26f46fa4a9d50e7691744a", func := "alembic/alembiclaw11.EmitxTests", spec := "emitxTests", inPlace := ["internal/abi.NoEscape", "internal/bytealg.MakeNoZero"], unfollowed := true, recurses := true, named := ["alembic/edge.comms", "alembic/edge.deps", "alembic/edge.sets", "alembic/edge.ends"], apart := false, laid := [("alembic/edge.comms", laid_alembic_edge_comms), ("alembic/edge.ends", laid_alembic_edge_ends), ("alembic/edge.sets", laid_alembic_edge_sets), ("alembic/edge.deps", laid_alembic_edge_deps)], narrowed := true }
def EmitxTestsUptoSaid : Prop := emitxTestsUptoRow.holds Tryz.pinned (OpenSpec.upto emitxTestsSpec)

/-- 'alembiclaw11.EmitxOwn', WHERE WHAT IT READS IS OF BULK AT MOST 1048576: true; the input reads as it did. -/
def emitxOwnUptoRow : OpenClaim := { program := "ytkgdhhieomndeaagreatdoor", sum := "4ecb4cba05a57376d7218749ab8526babf3e5669ca26f46fa4a9d50e7691744a", func := "alembic/alembiclaw11.EmitxOwn", spec := "emitxOwn", inPlace := ["internal/abi.NoEscape", "internal/bytealg.MakeNoZero"], unfollowed := true, recurses := true, named := ["alembic/edge.comms", "alembic/edge.deps", "alembic/edge.sets", "alembic/edge.ends"], apart := false, laid := [("alembic/edge.comms", laid_alembic_edge_comms), ("alembic/edge.ends", laid_alembic_edge_ends), ("alembic/edge.sets", laid_alembic_edge_sets), ("alembic/edge.deps", laid_alembic_edge_deps)], narrowed := true }
def EmitxOwnUptoSaid : Prop := emitxOwnUptoRow.holds Tryz.pinned (OpenSpec.upto emitxOwnSpec)

end Rows
end Go.Proofs.YtkgdhhieomndeaaGreatDoor
