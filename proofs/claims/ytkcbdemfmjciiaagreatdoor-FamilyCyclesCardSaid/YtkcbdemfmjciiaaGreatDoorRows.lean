/-
  NARROWER THAN 'FOR EVERY INPUT', by the rows' own cells (each row's printed sentence says how): FamilyCycles: laid.
  DERIVED. THE GIVEN ROWS OF THIS SEAT. 1 by the template 'for every input the law returns true; each argument reads behind the call as it read before'; 0 by the template 'total and deterministic' (their statements: YtkcbdemfmjciiaaGreatDoorTotals.lean).
  GIVEN WITH THE SEED: the statements are not yours to turn. If you find one false, say at which input.
  Laid BY PROGRAM, IN A SANDBOX (cutbox-rows.mjs): the forced cells as the released guide's own fill.sh prints them over the translation 3145da6a9a11651b… (all of the seat's roots in one cut). By AI agents, Wed Nov 11 2026. No macro, syntax, notation, axiom, sorry.
-/
import Derived.Test.YtkcbdemfmjciiaaGreatDoorChecked
import GoSem.PinnedTables
import GoSem.Claim
import GoSem.ClaimJoined
import GoSem.ClaimMapViews
import Derived.JoinedTies
import Derived.KernelRfl
namespace Go.Proofs.YtkcbdemfmjciiaaGreatDoor
/- THE CELL 'sum', in the pinned program and in every row, IS THE sha256 OF THE DUMP (.gsa) THAT YtkcbdemfmjciiaaGreatDoorProg.lean LOADS. Nothing in Lean hashes anything: it is a label: what it is worth is what the hold of that sum in a sandbox is worth. -/
noncomputable def Tryz.pinned : Pinned := { name := "ytkcbdemfmjciiaagreatdoor", sum := "3145da6a9a11651b783bd5e585b1fc7aefd4b83636c3a5defd13e2374921c425", checked := Tryz.checked }
namespace Rows
def none {H : Type} : Left H := { results := [], args := [] }

/- WHAT THE LISTED PACKAGE-LEVEL VARIABLES READ AS WHEN THE CALL BEGINS. Each datum BY PROGRAM (the guide's laid-datum.mjs) off the statement by which the dump's own 'gosem.cut.vars' lays the variable. In a bare row this is a premise. The card (YtkcbdemfmjciiaaGreatDoorCards.lean) ties it to the program's text. -/
def laid_alembic_edge_comms {H : Type} : DataW H := .agg [.lit (.string [82, 102, 101]), .lit (.string [82, 102, 105]), .lit (.string [70, 114, 101]), .lit (.string [70, 114, 105]), .lit (.string [67, 111, 101]), .lit (.string [67, 111, 105])]
def laid_alembic_edge_ends {H : Type} : DataW H := .agg [.lit (.string [82, 82]), .lit (.string [82, 87]), .lit (.string [87, 82]), .lit (.string [87, 87])]
def laid_alembic_edge_sets {H : Type} : DataW H := .agg [.lit (.string [114, 46, 114]), .lit (.string [114, 46, 119]), .lit (.string [114, 46, 114, 119]), .lit (.string [119, 46, 114]), .lit (.string [119, 46, 119]), .lit (.string [119, 46, 114, 119]), .lit (.string [114, 119, 46, 114]), .lit (.string [114, 119, 46, 119]), .lit (.string [114, 119, 46, 114, 119])]
def laid_alembic_edge_deps {H : Type} : DataW H := .agg [.lit (.string [68, 112, 65, 100, 100, 114, 100, 82]), .lit (.string [68, 112, 65, 100, 100, 114, 100, 87]), .lit (.string [68, 112, 65, 100, 100, 114, 115, 82]), .lit (.string [68, 112, 65, 100, 100, 114, 115, 87]), .lit (.string [68, 112, 68, 97, 116, 97, 100, 87]), .lit (.string [68, 112, 68, 97, 116, 97, 115, 87]), .lit (.string [68, 112, 67, 116, 114, 108, 100, 82]), .lit (.string [68, 112, 67, 116, 114, 108, 100, 87]), .lit (.string [68, 112, 67, 116, 114, 108, 115, 82]), .lit (.string [68, 112, 67, 116, 114, 108, 115, 87])]
def laid_unicode_utf8_acceptRanges {H : Type} : DataW H := .agg [.agg [.lit (.int .u8 128), .lit (.int .u8 191)], .agg [.lit (.int .u8 160), .lit (.int .u8 191)], .agg [.lit (.int .u8 128), .lit (.int .u8 159)], .agg [.lit (.int .u8 144), .lit (.int .u8 191)], .agg [.lit (.int .u8 128), .lit (.int .u8 143)], .agg [.lit (.int .u8 0), .lit (.int .u8 0)], .agg [.lit (.int .u8 0), .lit (.int .u8 0)], .agg [.lit (.int .u8 0), .lit (.int .u8 0)], .agg [.lit (.int .u8 0), .lit (.int .u8 0)], .agg [.lit (.int .u8 0), .lit (.int .u8 0)], .agg [.lit (.int .u8 0), .lit (.int .u8 0)], .agg [.lit (.int .u8 0), .lit (.int .u8 0)], .agg [.lit (.int .u8 0), .lit (.int .u8 0)], .agg [.lit (.int .u8 0), .lit (.int .u8 0)], .agg [.lit (.int .u8 0), .lit (.int .u8 0)], .agg [.lit (.int .u8 0), .lit (.int .u8 0)]]
def laid_alembic_family_all {H : Type} : DataW H := .agg [.agg [.lit (.string [83, 66]), .lit (.string [80, 111, 100, 87, 82, 32, 70, 114, 101, 32, 80, 111, 100, 87, 82, 32, 70, 114, 101])], .agg [.lit (.string [77, 80]), .lit (.string [80, 111, 100, 87, 87, 32, 82, 102, 101, 32, 80, 111, 100, 82, 82, 32, 70, 114, 101])], .agg [.lit (.string [76, 66]), .lit (.string [80, 111, 100, 82, 87, 32, 82, 102, 101, 32, 80, 111, 100, 82, 87, 32, 82, 102, 101])], .agg [.lit (.string [82]), .lit (.string [80, 111, 100, 87, 87, 32, 67, 111, 101, 32, 80, 111, 100, 87, 82, 32, 70, 114, 101])], .agg [.lit (.string [83]), .lit (.string [80, 111, 100, 87, 87, 32, 82, 102, 101, 32, 80, 111, 100, 82, 87, 32, 67, 111, 101])], .agg [.lit (.string [50, 43, 50, 87]), .lit (.string [80, 111, 100, 87, 87, 32, 67, 111, 101, 32, 80, 111, 100, 87, 87, 32, 67, 111, 101])], .agg [.lit (.string [87, 82, 67]), .lit (.string [82, 102, 101, 32, 80, 111, 100, 82, 87, 32, 82, 102, 101, 32, 80, 111, 100, 82, 82, 32, 70, 114, 101])], .agg [.lit (.string [82, 87, 67]), .lit (.string [82, 102, 101, 32, 80, 111, 100, 82, 82, 32, 70, 114, 101, 32, 80, 111, 100, 87, 82, 32, 70, 114, 101])], .agg [.lit (.string [87, 87, 67]), .lit (.string [82, 102, 101, 32, 80, 111, 100, 82, 87, 32, 82, 102, 101, 32, 80, 111, 100, 82, 87, 32, 67, 111, 101])], .agg [.lit (.string [87, 82, 82, 43, 50, 87]), .lit (.string [82, 102, 101, 32, 80, 111, 100, 82, 82, 32, 70, 114, 101, 32, 80, 111, 100, 87, 87, 32, 67, 111, 101])], .agg [.lit (.string [87, 82, 87, 43, 50, 87]), .lit (.string [82, 102, 101, 32, 80, 111, 100, 82, 87, 32, 67, 111, 101, 32, 80, 111, 100, 87, 87, 32, 67, 111, 101])], .agg [.lit (.string [73, 83, 65, 50]), .lit (.string [80, 111, 100, 87, 87, 32, 82, 102, 101, 32, 80, 111, 100, 82, 87, 32, 82, 102, 101, 32, 80, 111, 100, 82, 82, 32, 70, 114, 101])], .agg [.lit (.string [87, 43, 82, 87, 67]), .lit (.string [80, 111, 100, 87, 87, 32, 82, 102, 101, 32, 80, 111, 100, 82, 82, 32, 70, 114, 101, 32, 80, 111, 100, 87, 82, 32, 70, 114, 101])], .agg [.lit (.string [90, 54, 46, 48]), .lit (.string [80, 111, 100, 87, 87, 32, 82, 102, 101, 32, 80, 111, 100, 82, 87, 32, 67, 111, 101, 32, 80, 111, 100, 87, 82, 32, 70, 114, 101])], .agg [.lit (.string [90, 54, 46, 49]), .lit (.string [80, 111, 100, 87, 87, 32, 67, 111, 101, 32, 80, 111, 100, 87, 87, 32, 82, 102, 101, 32, 80, 111, 100, 82, 87, 32, 67, 111, 101])], .agg [.lit (.string [90, 54, 46, 50]), .lit (.string [80, 111, 100, 87, 87, 32, 82, 102, 101, 32, 80, 111, 100, 82, 87, 32, 82, 102, 101, 32, 80, 111, 100, 82, 87, 32, 67, 111, 101])], .agg [.lit (.string [90, 54, 46, 51]), .lit (.string [80, 111, 100, 87, 87, 32, 67, 111, 101, 32, 80, 111, 100, 87, 87, 32, 82, 102, 101, 32, 80, 111, 100, 82, 82, 32, 70, 114, 101])], .agg [.lit (.string [90, 54, 46, 52]), .lit (.string [80, 111, 100, 87, 87, 32, 67, 111, 101, 32, 80, 111, 100, 87, 82, 32, 70, 114, 101, 32, 80, 111, 100, 87, 82, 32, 70, 114, 101])], .agg [.lit (.string [90, 54, 46, 53]), .lit (.string [80, 111, 100, 87, 87, 32, 67, 111, 101, 32, 80, 111, 100, 87, 87, 32, 67, 111, 101, 32, 80, 111, 100, 87, 82, 32, 70, 114, 101])], .agg [.lit (.string [51, 46, 83, 66]), .lit (.string [80, 111, 100, 87, 82, 32, 70, 114, 101, 32, 80, 111, 100, 87, 82, 32, 70, 114, 101, 32, 80, 111, 100, 87, 82, 32, 70, 114, 101])], .agg [.lit (.string [51, 46, 76, 66]), .lit (.string [80, 111, 100, 82, 87, 32, 82, 102, 101, 32, 80, 111, 100, 82, 87, 32, 82, 102, 101, 32, 80, 111, 100, 82, 87, 32, 82, 102, 101])], .agg [.lit (.string [51, 46, 50, 87]), .lit (.string [80, 111, 100, 87, 87, 32, 67, 111, 101, 32, 80, 111, 100, 87, 87, 32, 67, 111, 101, 32, 80, 111, 100, 87, 87, 32, 67, 111, 101])], .agg [.lit (.string [73, 82, 73, 87]), .lit (.string [82, 102, 101, 32, 80, 111, 100, 82, 82, 32, 70, 114, 101, 32, 82, 102, 101, 32, 80, 111, 100, 82, 82, 32, 70, 114, 101])], .agg [.lit (.string [73, 82, 82, 87, 73, 87]), .lit (.string [82, 102, 101, 32, 80, 111, 100, 82, 82, 32, 70, 114, 101, 32, 82, 102, 101, 32, 80, 111, 100, 82, 87, 32, 67, 111, 101])], .agg [.lit (.string [73, 82, 87, 73, 87]), .lit (.string [82, 102, 101, 32, 80, 111, 100, 82, 87, 32, 67, 111, 101, 32, 82, 102, 101, 32, 80, 111, 100, 82, 87, 32, 67, 111, 101])]]
/-- One of Go's own tables, pinned by name: the form's constant. -/
def laid_unicode_utf8_first : DataW Unit := Go.Pinned.utf8First

/-- 'alembiclaw27.FamilyCycles': WHATEVER THE INPUT: true; the input reads as it did. -/
def familyCyclesSpec : ChangeSpec := { name := "familyCycles", fn := fun _ => fun
  | [d1, d2] => { results := [.lit (.bool true)], args := [d1, d2] }
  | _ => none }
def familyCyclesRow : OpenClaim := { program := "ytkcbdemfmjciiaagreatdoor", sum := "3145da6a9a11651b783bd5e585b1fc7aefd4b83636c3a5defd13e2374921c425", func := "alembic/alembiclaw27.FamilyCycles", spec := "familyCycles", inPlace := ["internal/bytealg.CountString", "internal/bytealg.IndexByteString", "internal/bytealg.IndexString", "internal/abi.NoEscape", "internal/bytealg.MakeNoZero"], unfollowed := true, recurses := true, named := ["alembic/family.all", "internal/bytealg.MaxLen", "unicode/utf8.first", "unicode/utf8.acceptRanges", "alembic/edge.comms", "alembic/edge.deps", "alembic/edge.sets", "alembic/edge.ends"], apart := false, laid := [("alembic/edge.comms", laid_alembic_edge_comms), ("alembic/edge.ends", laid_alembic_edge_ends), ("alembic/edge.sets", laid_alembic_edge_sets), ("alembic/edge.deps", laid_alembic_edge_deps), ("unicode/utf8.acceptRanges", laid_unicode_utf8_acceptRanges), ("alembic/family.all", laid_alembic_family_all), ("unicode/utf8.first", laid_unicode_utf8_first)] }
def FamilyCyclesSaid : Prop := familyCyclesRow.holds Tryz.pinned (OpenSpec.ofChange familyCyclesSpec)

/-- ITS FALSE NEIGHBOUR: 'it returns false'. Refute it at one input. -/
def familyCyclesWrong : ChangeSpec := { name := "familyCycles", fn := fun _ => fun
  | [d1, d2] => { results := [.lit (.bool false)], args := [d1, d2] }
  | _ => none }
def FamilyCyclesWrongFalsely : Prop := familyCyclesRow.holds Tryz.pinned (OpenSpec.ofChange familyCyclesWrong)

/- THE SECOND FORM. 'bulk': how many values and letters a reading holds, each counted each time it is reached (what is shared counts as often as it is met; a slice's spare places count too). A statement '..UptoSaid' is the law's where the arguments, and the package variables that the reading takes, are together of bulk at most 1048576: NARROWER than '..Said'. Prove '..Said' where nothing that the law and all that it calls make is longer than what came in: it says more and counts as full. Else prove '..UptoSaid'. A law counts once. -/
mutual
def uptoBulk {H : Type} : DataW H → Nat
  | .lit (.string bytes) => bytes.length + 1
  | .lit _ => 1
  | .nil => 1
  | .ptr d => uptoBulk d + 1
  | .slice elems spare => uptoBulkAll elems + uptoBulkAll spare + 1
  | .agg parts => uptoBulkAll parts + 1
  | .iface _ d => uptoBulk d + 1
  | .map entries => uptoBulkEntries entries + 1
  | .held _ => 1
def uptoBulkAll {H : Type} : List (DataW H) → Nat
  | [] => 0
  | d :: r => uptoBulk d + uptoBulkAll r
def uptoBulkEntries {H : Type} : List (Lit × DataW H) → Nat
  | [] => 0
  | x :: r => uptoBulkEntry x + uptoBulkEntries r
def uptoBulkEntry {H : Type} : Lit × DataW H → Nat
  | (.string bytes, d) => bytes.length + uptoBulk d + 1
  | (_, d) => uptoBulk d + 1
 end
def uptoSmall : (H : Type) → List (DataW H) → Bool := fun _ ds => decide (uptoBulkAll ds ≤ 1048576)
def OpenSpec.upto (s : _root_.Go.ChangeSpec) : _root_.Go.OpenSpec := { _root_.Go.OpenSpec.ofChange s with cond := some uptoSmall }

/-- 'alembiclaw27.FamilyCycles', WHERE WHAT IT READS IS OF BULK AT MOST 1048576: true; the input reads as it did. -/
def familyCyclesUptoRow : OpenClaim := { program := "ytkcbdemfmjciiaagreatdoor", sum := "3145da6a9a11651b783bd5e585b1fc7aefd4b83636c3a5defd13e2374921c425", func := "alembic/alembiclaw27.FamilyCycles", spec := "familyCycles", inPlace := ["internal/bytealg.CountString", "internal/bytealg.IndexByteString", "internal/bytealg.IndexString", "internal/abi.NoEscape", "internal/bytealg.MakeNoZero"], unfollowed := true, recurses := true, named := ["alembic/family.all", "internal/bytealg.MaxLen", "unicode/utf8.first", "unicode/utf8.acceptRanges", "alembic/edge.comms", "alembic/edge.deps", "alembic/edge.sets", "alembic/edge.ends"], apart := false, laid := [("alembic/edge.comms", laid_alembic_edge_comms), ("alembic/edge.ends", laid_alembic_edge_ends), ("alembic/edge.sets", laid_alembic_edge_sets), ("alembic/edge.deps", laid_alembic_edge_deps), ("unicode/utf8.acceptRanges", laid_unicode_utf8_acceptRanges), ("alembic/family.all", laid_alembic_family_all), ("unicode/utf8.first", laid_unicode_utf8_first)], narrowed := true }
def FamilyCyclesUptoSaid : Prop := familyCyclesUptoRow.holds Tryz.pinned (OpenSpec.upto familyCyclesSpec)

end Rows
end Go.Proofs.YtkcbdemfmjciiaaGreatDoor
