/-
  NARROWER THAN 'FOR EVERY INPUT', by the rows' own cells (each row's printed sentence says how): EdgeParses: laid · EdgeCodes: laid · EdgeOf: laid · EdgeBack: laid · EdgeLegal: laid · EdgeOrder: laid · EdgeTotal: laid · EdgeAll: laid · CycleParses: laid · CycleChecks: laid · CycleNumbers: laid · CycleParts: laid · CyclePrints: laid · CycleTurned: laid · CycleBack: laid · CycleTurns: laid · CycleApart: laid · CycleBlanks: laid.
  DERIVED. THE GIVEN ROWS OF THIS SEAT. 18 by the template 'for every input the law returns true; each argument reads behind the call as it read before'; 0 by the template 'total and deterministic' (their statements: YtcaljjnadbpacaaDoorTotals.lean).
  GIVEN WITH THE SEED: the statements are not yours to turn. If you find one false, say at which input.
  Laid BY PROGRAM, IN A SANDBOX (cutbox-rows.mjs): the forced cells as the released guide's own fill.sh prints them over the translation 6210fbb2ee1d6070… (all of the seat's roots in one cut). By AI agents, Wed Nov 11 2026. No macro, syntax, notation, axiom, sorry.
-/
import Derived.Test.YtcaljjnadbpacaaDoorChecked
import GoSem.Claim
import GoSem.ClaimJoined
import GoSem.ClaimMapViews
import Derived.JoinedTies
import Derived.KernelRfl
namespace Go.Proofs.YtcaljjnadbpacaaDoor
/- THE CELL 'sum', in the pinned program and in every row, IS THE sha256 OF THE DUMP (.gsa) THAT YtcaljjnadbpacaaDoorProg.lean LOADS. Nothing in Lean hashes anything: it is a label: what it is worth is what the hold of that sum in a sandbox is worth. -/
noncomputable def Tryd.pinned : Pinned := { name := "ytcaljjnadbpacaadoor", sum := "6210fbb2ee1d6070ddd764fe9d55c61e80595f19220c45bb435aeeff9289b76a", checked := Tryd.checked }
namespace Rows
def none {H : Type} : Left H := { results := [], args := [] }

/- WHAT THE LISTED PACKAGE-LEVEL VARIABLES READ AS WHEN THE CALL BEGINS. Each datum BY PROGRAM (the guide's laid-datum.mjs) off the statement by which the dump's own 'gosem.cut.vars' lays the variable. In a bare row this is a premise. The card (YtcaljjnadbpacaaDoorCards.lean) ties it to the program's text. -/
def laid_alembic_edge_comms {H : Type} : DataW H := .agg [.lit (.string [82, 102, 101]), .lit (.string [82, 102, 105]), .lit (.string [70, 114, 101]), .lit (.string [70, 114, 105]), .lit (.string [67, 111, 101]), .lit (.string [67, 111, 105])]
def laid_alembic_edge_ends {H : Type} : DataW H := .agg [.lit (.string [82, 82]), .lit (.string [82, 87]), .lit (.string [87, 82]), .lit (.string [87, 87])]
def laid_alembic_edge_sets {H : Type} : DataW H := .agg [.lit (.string [114, 46, 114]), .lit (.string [114, 46, 119]), .lit (.string [114, 46, 114, 119]), .lit (.string [119, 46, 114]), .lit (.string [119, 46, 119]), .lit (.string [119, 46, 114, 119]), .lit (.string [114, 119, 46, 114]), .lit (.string [114, 119, 46, 119]), .lit (.string [114, 119, 46, 114, 119])]
def laid_alembic_edge_deps {H : Type} : DataW H := .agg [.lit (.string [68, 112, 65, 100, 100, 114, 100, 82]), .lit (.string [68, 112, 65, 100, 100, 114, 100, 87]), .lit (.string [68, 112, 65, 100, 100, 114, 115, 82]), .lit (.string [68, 112, 65, 100, 100, 114, 115, 87]), .lit (.string [68, 112, 68, 97, 116, 97, 100, 87]), .lit (.string [68, 112, 68, 97, 116, 97, 115, 87]), .lit (.string [68, 112, 67, 116, 114, 108, 100, 82]), .lit (.string [68, 112, 67, 116, 114, 108, 100, 87]), .lit (.string [68, 112, 67, 116, 114, 108, 115, 82]), .lit (.string [68, 112, 67, 116, 114, 108, 115, 87])]

/-- 'alembiclaw03.EdgeParses': WHATEVER THE INPUT: true; the input reads as it did. -/
def edgeParsesSpec : ChangeSpec := { name := "edgeParses", fn := fun _ => fun
  | [d] => { results := [.lit (.bool true)], args := [d] }
  | _ => none }
def edgeParsesRow : OpenClaim := { program := "ytcaljjnadbpacaadoor", sum := "6210fbb2ee1d6070ddd764fe9d55c61e80595f19220c45bb435aeeff9289b76a", func := "alembic/alembiclaw03.EdgeParses", spec := "edgeParses", named := ["alembic/edge.comms", "alembic/edge.deps", "alembic/edge.sets", "alembic/edge.ends"], apart := false, laid := [("alembic/edge.comms", laid_alembic_edge_comms), ("alembic/edge.ends", laid_alembic_edge_ends), ("alembic/edge.sets", laid_alembic_edge_sets), ("alembic/edge.deps", laid_alembic_edge_deps)] }
def EdgeParsesSaid : Prop := edgeParsesRow.holds Tryd.pinned (OpenSpec.ofChange edgeParsesSpec)

/-- ITS FALSE NEIGHBOUR: 'it returns false'. Refute it at one input. -/
def edgeParsesWrong : ChangeSpec := { name := "edgeParses", fn := fun _ => fun
  | [d] => { results := [.lit (.bool false)], args := [d] }
  | _ => none }
def EdgeParsesWrongFalsely : Prop := edgeParsesRow.holds Tryd.pinned (OpenSpec.ofChange edgeParsesWrong)

/-- 'alembiclaw03.EdgeCodes': WHATEVER THE INPUT: true; the input reads as it did. -/
def edgeCodesSpec : ChangeSpec := { name := "edgeCodes", fn := fun _ => fun
  | [d] => { results := [.lit (.bool true)], args := [d] }
  | _ => none }
def edgeCodesRow : OpenClaim := { program := "ytcaljjnadbpacaadoor", sum := "6210fbb2ee1d6070ddd764fe9d55c61e80595f19220c45bb435aeeff9289b76a", func := "alembic/alembiclaw03.EdgeCodes", spec := "edgeCodes", named := ["alembic/edge.comms", "alembic/edge.deps", "alembic/edge.sets", "alembic/edge.ends"], apart := false, laid := [("alembic/edge.comms", laid_alembic_edge_comms), ("alembic/edge.ends", laid_alembic_edge_ends), ("alembic/edge.sets", laid_alembic_edge_sets), ("alembic/edge.deps", laid_alembic_edge_deps)] }
def EdgeCodesSaid : Prop := edgeCodesRow.holds Tryd.pinned (OpenSpec.ofChange edgeCodesSpec)

/-- ITS FALSE NEIGHBOUR: 'it returns false'. Refute it at one input. -/
def edgeCodesWrong : ChangeSpec := { name := "edgeCodes", fn := fun _ => fun
  | [d] => { results := [.lit (.bool false)], args := [d] }
  | _ => none }
def EdgeCodesWrongFalsely : Prop := edgeCodesRow.holds Tryd.pinned (OpenSpec.ofChange edgeCodesWrong)

/-- 'alembiclaw03.EdgeOf': WHATEVER THE INPUT: true; the input reads as it did. -/
def edgeOfSpec : ChangeSpec := { name := "edgeOf", fn := fun _ => fun
  | [d] => { results := [.lit (.bool true)], args := [d] }
  | _ => none }
def edgeOfRow : OpenClaim := { program := "ytcaljjnadbpacaadoor", sum := "6210fbb2ee1d6070ddd764fe9d55c61e80595f19220c45bb435aeeff9289b76a", func := "alembic/alembiclaw03.EdgeOf", spec := "edgeOf", named := ["alembic/edge.comms", "alembic/edge.deps", "alembic/edge.sets", "alembic/edge.ends"], apart := false, laid := [("alembic/edge.comms", laid_alembic_edge_comms), ("alembic/edge.ends", laid_alembic_edge_ends), ("alembic/edge.sets", laid_alembic_edge_sets), ("alembic/edge.deps", laid_alembic_edge_deps)] }
def EdgeOfSaid : Prop := edgeOfRow.holds Tryd.pinned (OpenSpec.ofChange edgeOfSpec)

/-- ITS FALSE NEIGHBOUR: 'it returns false'. Refute it at one input. -/
def edgeOfWrong : ChangeSpec := { name := "edgeOf", fn := fun _ => fun
  | [d] => { results := [.lit (.bool false)], args := [d] }
  | _ => none }
def EdgeOfWrongFalsely : Prop := edgeOfRow.holds Tryd.pinned (OpenSpec.ofChange edgeOfWrong)

/-- 'alembiclaw03.EdgeBack': WHATEVER THE INPUT: true; the input reads as it did. -/
def edgeBackSpec : ChangeSpec := { name := "edgeBack", fn := fun _ => fun
  | [d1, d2] => { results := [.lit (.bool true)], args := [d1, d2] }
  | _ => none }
def edgeBackRow : OpenClaim := { program := "ytcaljjnadbpacaadoor", sum := "6210fbb2ee1d6070ddd764fe9d55c61e80595f19220c45bb435aeeff9289b76a", func := "alembic/alembiclaw03.EdgeBack", spec := "edgeBack", named := ["alembic/edge.comms", "alembic/edge.deps", "alembic/edge.sets", "alembic/edge.ends"], apart := false, laid := [("alembic/edge.comms", laid_alembic_edge_comms), ("alembic/edge.ends", laid_alembic_edge_ends), ("alembic/edge.sets", laid_alembic_edge_sets), ("alembic/edge.deps", laid_alembic_edge_deps)] }
def EdgeBackSaid : Prop := edgeBackRow.holds Tryd.pinned (OpenSpec.ofChange edgeBackSpec)

/-- ITS FALSE NEIGHBOUR: 'it returns false'. Refute it at one input. -/
def edgeBackWrong : ChangeSpec := { name := "edgeBack", fn := fun _ => fun
  | [d1, d2] => { results := [.lit (.bool false)], args := [d1, d2] }
  | _ => none }
def EdgeBackWrongFalsely : Prop := edgeBackRow.holds Tryd.pinned (OpenSpec.ofChange edgeBackWrong)

/-- 'alembiclaw03.EdgeLegal': WHATEVER THE INPUT: true; the input reads as it did. -/
def edgeLegalSpec : ChangeSpec := { name := "edgeLegal", fn := fun _ => fun
  | [d1, d2] => { results := [.lit (.bool true)], args := [d1, d2] }
  | _ => none }
def edgeLegalRow : OpenClaim := { program := "ytcaljjnadbpacaadoor", sum := "6210fbb2ee1d6070ddd764fe9d55c61e80595f19220c45bb435aeeff9289b76a", func := "alembic/alembiclaw03.EdgeLegal", spec := "edgeLegal", named := ["alembic/edge.comms", "alembic/edge.deps", "alembic/edge.sets", "alembic/edge.ends"], apart := false, laid := [("alembic/edge.comms", laid_alembic_edge_comms), ("alembic/edge.ends", laid_alembic_edge_ends), ("alembic/edge.sets", laid_alembic_edge_sets), ("alembic/edge.deps", laid_alembic_edge_deps)] }
def EdgeLegalSaid : Prop := edgeLegalRow.holds Tryd.pinned (OpenSpec.ofChange edgeLegalSpec)

/-- ITS FALSE NEIGHBOUR: 'it returns false'. Refute it at one input. -/
def edgeLegalWrong : ChangeSpec := { name := "edgeLegal", fn := fun _ => fun
  | [d1, d2] => { results := [.lit (.bool false)], args := [d1, d2] }
  | _ => none }
def EdgeLegalWrongFalsely : Prop := edgeLegalRow.holds Tryd.pinned (OpenSpec.ofChange edgeLegalWrong)

/-- 'alembiclaw03.EdgeOrder': WHATEVER THE INPUT: true; the input reads as it did. -/
def edgeOrderSpec : ChangeSpec := { name := "edgeOrder", fn := fun _ => fun
  | [d1, d2] => { results := [.lit (.bool true)], args := [d1, d2] }
  | _ => none }
def edgeOrderRow : OpenClaim := { program := "ytcaljjnadbpacaadoor", sum := "6210fbb2ee1d6070ddd764fe9d55c61e80595f19220c45bb435aeeff9289b76a", func := "alembic/alembiclaw03.EdgeOrder", spec := "edgeOrder", named := ["alembic/edge.comms", "alembic/edge.deps", "alembic/edge.sets", "alembic/edge.ends"], apart := false, laid := [("alembic/edge.comms", laid_alembic_edge_comms), ("alembic/edge.ends", laid_alembic_edge_ends), ("alembic/edge.sets", laid_alembic_edge_sets), ("alembic/edge.deps", laid_alembic_edge_deps)] }
def EdgeOrderSaid : Prop := edgeOrderRow.holds Tryd.pinned (OpenSpec.ofChange edgeOrderSpec)

/-- ITS FALSE NEIGHBOUR: 'it returns false'. Refute it at one input. -/
def edgeOrderWrong : ChangeSpec := { name := "edgeOrder", fn := fun _ => fun
  | [d1, d2] => { results := [.lit (.bool false)], args := [d1, d2] }
  | _ => none }
def EdgeOrderWrongFalsely : Prop := edgeOrderRow.holds Tryd.pinned (OpenSpec.ofChange edgeOrderWrong)

/-- 'alembiclaw03.EdgeTotal': WHATEVER THE INPUT: true; the input reads as it did. -/
def edgeTotalSpec : ChangeSpec := { name := "edgeTotal", fn := fun _ => fun
  | [d1, d2, d3] => { results := [.lit (.bool true)], args := [d1, d2, d3] }
  | _ => none }
def edgeTotalRow : OpenClaim := { program := "ytcaljjnadbpacaadoor", sum := "6210fbb2ee1d6070ddd764fe9d55c61e80595f19220c45bb435aeeff9289b76a", func := "alembic/alembiclaw03.EdgeTotal", spec := "edgeTotal", named := ["alembic/edge.comms", "alembic/edge.deps", "alembic/edge.sets", "alembic/edge.ends"], apart := false, laid := [("alembic/edge.comms", laid_alembic_edge_comms), ("alembic/edge.ends", laid_alembic_edge_ends), ("alembic/edge.sets", laid_alembic_edge_sets), ("alembic/edge.deps", laid_alembic_edge_deps)] }
def EdgeTotalSaid : Prop := edgeTotalRow.holds Tryd.pinned (OpenSpec.ofChange edgeTotalSpec)

/-- ITS FALSE NEIGHBOUR: 'it returns false'. Refute it at one input. -/
def edgeTotalWrong : ChangeSpec := { name := "edgeTotal", fn := fun _ => fun
  | [d1, d2, d3] => { results := [.lit (.bool false)], args := [d1, d2, d3] }
  | _ => none }
def EdgeTotalWrongFalsely : Prop := edgeTotalRow.holds Tryd.pinned (OpenSpec.ofChange edgeTotalWrong)

/-- 'alembiclaw03.EdgeAll': WHATEVER THE INPUT: true; the input reads as it did. -/
def edgeAllSpec : ChangeSpec := { name := "edgeAll", fn := fun _ => fun
  | [d] => { results := [.lit (.bool true)], args := [d] }
  | _ => none }
def edgeAllRow : OpenClaim := { program := "ytcaljjnadbpacaadoor", sum := "6210fbb2ee1d6070ddd764fe9d55c61e80595f19220c45bb435aeeff9289b76a", func := "alembic/alembiclaw03.EdgeAll", spec := "edgeAll", named := ["alembic/edge.comms", "alembic/edge.deps", "alembic/edge.sets", "alembic/edge.ends"], apart := false, laid := [("alembic/edge.comms", laid_alembic_edge_comms), ("alembic/edge.ends", laid_alembic_edge_ends), ("alembic/edge.sets", laid_alembic_edge_sets), ("alembic/edge.deps", laid_alembic_edge_deps)] }
def EdgeAllSaid : Prop := edgeAllRow.holds Tryd.pinned (OpenSpec.ofChange edgeAllSpec)

/-- ITS FALSE NEIGHBOUR: 'it returns false'. Refute it at one input. -/
def edgeAllWrong : ChangeSpec := { name := "edgeAll", fn := fun _ => fun
  | [d] => { results := [.lit (.bool false)], args := [d] }
  | _ => none }
def EdgeAllWrongFalsely : Prop := edgeAllRow.holds Tryd.pinned (OpenSpec.ofChange edgeAllWrong)

/-- 'alembiclaw04.CycleParses': WHATEVER THE INPUT: true; the input reads as it did. -/
def cycleParsesSpec : ChangeSpec := { name := "cycleParses", fn := fun _ => fun
  | [d] => { results := [.lit (.bool true)], args := [d] }
  | _ => none }
def cycleParsesRow : OpenClaim := { program := "ytcaljjnadbpacaadoor", sum := "6210fbb2ee1d6070ddd764fe9d55c61e80595f19220c45bb435aeeff9289b76a", func := "alembic/alembiclaw04.CycleParses", spec := "cycleParses", unfollowed := true, recurses := true, named := ["alembic/edge.comms", "alembic/edge.deps", "alembic/edge.sets", "alembic/edge.ends"], apart := false, laid := [("alembic/edge.comms", laid_alembic_edge_comms), ("alembic/edge.ends", laid_alembic_edge_ends), ("alembic/edge.sets", laid_alembic_edge_sets), ("alembic/edge.deps", laid_alembic_edge_deps)] }
def CycleParsesSaid : Prop := cycleParsesRow.holds Tryd.pinned (OpenSpec.ofChange cycleParsesSpec)

/-- ITS FALSE NEIGHBOUR: 'it returns false'. Refute it at one input. -/
def cycleParsesWrong : ChangeSpec := { name := "cycleParses", fn := fun _ => fun
  | [d] => { results := [.lit (.bool false)], args := [d] }
  | _ => none }
def CycleParsesWrongFalsely : Prop := cycleParsesRow.holds Tryd.pinned (OpenSpec.ofChange cycleParsesWrong)

/-- 'alembiclaw04.CycleChecks': WHATEVER THE INPUT: true; the input reads as it did. -/
def cycleChecksSpec : ChangeSpec := { name := "cycleChecks", fn := fun _ => fun
  | [d1, d2] => { results := [.lit (.bool true)], args := [d1, d2] }
  | _ => none }
def cycleChecksRow : OpenClaim := { program := "ytcaljjnadbpacaadoor", sum := "6210fbb2ee1d6070ddd764fe9d55c61e80595f19220c45bb435aeeff9289b76a", func := "alembic/alembiclaw04.CycleChecks", spec := "cycleChecks", unfollowed := true, recurses := true, named := ["alembic/edge.comms", "alembic/edge.deps", "alembic/edge.sets", "alembic/edge.ends"], apart := false, laid := [("alembic/edge.comms", laid_alembic_edge_comms), ("alembic/edge.ends", laid_alembic_edge_ends), ("alembic/edge.sets", laid_alembic_edge_sets), ("alembic/edge.deps", laid_alembic_edge_deps)] }
def CycleChecksSaid : Prop := cycleChecksRow.holds Tryd.pinned (OpenSpec.ofChange cycleChecksSpec)

/-- ITS FALSE NEIGHBOUR: 'it returns false'. Refute it at one input. -/
def cycleChecksWrong : ChangeSpec := { name := "cycleChecks", fn := fun _ => fun
  | [d1, d2] => { results := [.lit (.bool false)], args := [d1, d2] }
  | _ => none }
def CycleChecksWrongFalsely : Prop := cycleChecksRow.holds Tryd.pinned (OpenSpec.ofChange cycleChecksWrong)

/-- 'alembiclaw04.CycleNumbers': WHATEVER THE INPUT: true; the input reads as it did. -/
def cycleNumbersSpec : ChangeSpec := { name := "cycleNumbers", fn := fun _ => fun
  | [d] => { results := [.lit (.bool true)], args := [d] }
  | _ => none }
def cycleNumbersRow : OpenClaim := { program := "ytcaljjnadbpacaadoor", sum := "6210fbb2ee1d6070ddd764fe9d55c61e80595f19220c45bb435aeeff9289b76a", func := "alembic/alembiclaw04.CycleNumbers", spec := "cycleNumbers", unfollowed := true, recurses := true, named := ["alembic/edge.comms", "alembic/edge.deps", "alembic/edge.sets", "alembic/edge.ends"], apart := false, laid := [("alembic/edge.comms", laid_alembic_edge_comms), ("alembic/edge.ends", laid_alembic_edge_ends), ("alembic/edge.sets", laid_alembic_edge_sets), ("alembic/edge.deps", laid_alembic_edge_deps)] }
def CycleNumbersSaid : Prop := cycleNumbersRow.holds Tryd.pinned (OpenSpec.ofChange cycleNumbersSpec)

/-- ITS FALSE NEIGHBOUR: 'it returns false'. Refute it at one input. -/
def cycleNumbersWrong : ChangeSpec := { name := "cycleNumbers", fn := fun _ => fun
  | [d] => { results := [.lit (.bool false)], args := [d] }
  | _ => none }
def CycleNumbersWrongFalsely : Prop := cycleNumbersRow.holds Tryd.pinned (OpenSpec.ofChange cycleNumbersWrong)

/-- 'alembiclaw04.CycleParts': WHATEVER THE INPUT: true; the input reads as it did. -/
def cyclePartsSpec : ChangeSpec := { name := "cycleParts", fn := fun _ => fun
  | [d1, d2] => { results := [.lit (.bool true)], args := [d1, d2] }
  | _ => none }
def cyclePartsRow : OpenClaim := { program := "ytcaljjnadbpacaadoor", sum := "6210fbb2ee1d6070ddd764fe9d55c61e80595f19220c45bb435aeeff9289b76a", func := "alembic/alembiclaw04.CycleParts", spec := "cycleParts", unfollowed := true, recurses := true, named := ["alembic/edge.comms", "alembic/edge.deps", "alembic/edge.sets", "alembic/edge.ends"], apart := false, laid := [("alembic/edge.comms", laid_alembic_edge_comms), ("alembic/edge.ends", laid_alembic_edge_ends), ("alembic/edge.sets", laid_alembic_edge_sets), ("alembic/edge.deps", laid_alembic_edge_deps)] }
def CyclePartsSaid : Prop := cyclePartsRow.holds Tryd.pinned (OpenSpec.ofChange cyclePartsSpec)

/-- ITS FALSE NEIGHBOUR: 'it returns false'. Refute it at one input. -/
def cyclePartsWrong : ChangeSpec := { name := "cycleParts", fn := fun _ => fun
  | [d1, d2] => { results := [.lit (.bool false)], args := [d1, d2] }
  | _ => none }
def CyclePartsWrongFalsely : Prop := cyclePartsRow.holds Tryd.pinned (OpenSpec.ofChange cyclePartsWrong)

/-- 'alembiclaw04.CyclePrints': WHATEVER THE INPUT: true; the input reads as it did. -/
def cyclePrintsSpec : ChangeSpec := { name := "cyclePrints", fn := fun _ => fun
  | [d] => { results := [.lit (.bool true)], args := [d] }
  | _ => none }
def cyclePrintsRow : OpenClaim := { program := "ytcaljjnadbpacaadoor", sum := "6210fbb2ee1d6070ddd764fe9d55c61e80595f19220c45bb435aeeff9289b76a", func := "alembic/alembiclaw04.CyclePrints", spec := "cyclePrints", inPlace := ["internal/abi.NoEscape", "internal/bytealg.MakeNoZero"], unfollowed := true, recurses := true, named := ["alembic/edge.comms", "alembic/edge.deps", "alembic/edge.sets", "alembic/edge.ends"], apart := false, laid := [("alembic/edge.comms", laid_alembic_edge_comms), ("alembic/edge.ends", laid_alembic_edge_ends), ("alembic/edge.sets", laid_alembic_edge_sets), ("alembic/edge.deps", laid_alembic_edge_deps)] }
def CyclePrintsSaid : Prop := cyclePrintsRow.holds Tryd.pinned (OpenSpec.ofChange cyclePrintsSpec)

/-- ITS FALSE NEIGHBOUR: 'it returns false'. Refute it at one input. -/
def cyclePrintsWrong : ChangeSpec := { name := "cyclePrints", fn := fun _ => fun
  | [d] => { results := [.lit (.bool false)], args := [d] }
  | _ => none }
def CyclePrintsWrongFalsely : Prop := cyclePrintsRow.holds Tryd.pinned (OpenSpec.ofChange cyclePrintsWrong)

/-- 'alembiclaw04.CycleTurned': WHATEVER THE INPUT: true; the input reads as it did. -/
def cycleTurnedSpec : ChangeSpec := { name := "cycleTurned", fn := fun _ => fun
  | [d1, d2] => { results := [.lit (.bool true)], args := [d1, d2] }
  | _ => none }
def cycleTurnedRow : OpenClaim := { program := "ytcaljjnadbpacaadoor", sum := "6210fbb2ee1d6070ddd764fe9d55c61e80595f19220c45bb435aeeff9289b76a", func := "alembic/alembiclaw04.CycleTurned", spec := "cycleTurned", unfollowed := true, recurses := true, named := ["alembic/edge.comms", "alembic/edge.deps", "alembic/edge.sets", "alembic/edge.ends"], apart := false, laid := [("alembic/edge.comms", laid_alembic_edge_comms), ("alembic/edge.ends", laid_alembic_edge_ends), ("alembic/edge.sets", laid_alembic_edge_sets), ("alembic/edge.deps", laid_alembic_edge_deps)] }
def CycleTurnedSaid : Prop := cycleTurnedRow.holds Tryd.pinned (OpenSpec.ofChange cycleTurnedSpec)

/-- ITS FALSE NEIGHBOUR: 'it returns false'. Refute it at one input. -/
def cycleTurnedWrong : ChangeSpec := { name := "cycleTurned", fn := fun _ => fun
  | [d1, d2] => { results := [.lit (.bool false)], args := [d1, d2] }
  | _ => none }
def CycleTurnedWrongFalsely : Prop := cycleTurnedRow.holds Tryd.pinned (OpenSpec.ofChange cycleTurnedWrong)

/-- 'alembiclaw04.CycleBack': WHATEVER THE INPUT: true; the input reads as it did. -/
def cycleBackSpec : ChangeSpec := { name := "cycleBack", fn := fun _ => fun
  | [d1, d2] => { results := [.lit (.bool true)], args := [d1, d2] }
  | _ => none }
def cycleBackRow : OpenClaim := { program := "ytcaljjnadbpacaadoor", sum := "6210fbb2ee1d6070ddd764fe9d55c61e80595f19220c45bb435aeeff9289b76a", func := "alembic/alembiclaw04.CycleBack", spec := "cycleBack", inPlace := ["internal/abi.NoEscape", "internal/bytealg.MakeNoZero"], unfollowed := true, recurses := true, named := ["alembic/edge.comms", "alembic/edge.deps", "alembic/edge.sets", "alembic/edge.ends"], apart := false, laid := [("alembic/edge.comms", laid_alembic_edge_comms), ("alembic/edge.ends", laid_alembic_edge_ends), ("alembic/edge.sets", laid_alembic_edge_sets), ("alembic/edge.deps", laid_alembic_edge_deps)] }
def CycleBackSaid : Prop := cycleBackRow.holds Tryd.pinned (OpenSpec.ofChange cycleBackSpec)

/-- ITS FALSE NEIGHBOUR: 'it returns false'. Refute it at one input. -/
def cycleBackWrong : ChangeSpec := { name := "cycleBack", fn := fun _ => fun
  | [d1, d2] => { results := [.lit (.bool false)], args := [d1, d2] }
  | _ => none }
def CycleBackWrongFalsely : Prop := cycleBackRow.holds Tryd.pinned (OpenSpec.ofChange cycleBackWrong)

/-- 'alembiclaw04.CycleTurns': WHATEVER THE INPUT: true; the input reads as it did. -/
def cycleTurnsSpec : ChangeSpec := { name := "cycleTurns", fn := fun _ => fun
  | [d1, d2, d3] => { results := [.lit (.bool true)], args := [d1, d2, d3] }
  | _ => none }
def cycleTurnsRow : OpenClaim := { program := "ytcaljjnadbpacaadoor", sum := "6210fbb2ee1d6070ddd764fe9d55c61e80595f19220c45bb435aeeff9289b76a", func := "alembic/alembiclaw04.CycleTurns", spec := "cycleTurns", unfollowed := true, recurses := true, named := ["alembic/edge.comms", "alembic/edge.deps", "alembic/edge.sets", "alembic/edge.ends"], apart := false, laid := [("alembic/edge.comms", laid_alembic_edge_comms), ("alembic/edge.ends", laid_alembic_edge_ends), ("alembic/edge.sets", laid_alembic_edge_sets), ("alembic/edge.deps", laid_alembic_edge_deps)] }
def CycleTurnsSaid : Prop := cycleTurnsRow.holds Tryd.pinned (OpenSpec.ofChange cycleTurnsSpec)

/-- ITS FALSE NEIGHBOUR: 'it returns false'. Refute it at one input. -/
def cycleTurnsWrong : ChangeSpec := { name := "cycleTurns", fn := fun _ => fun
  | [d1, d2, d3] => { results := [.lit (.bool false)], args := [d1, d2, d3] }
  | _ => none }
def CycleTurnsWrongFalsely : Prop := cycleTurnsRow.holds Tryd.pinned (OpenSpec.ofChange cycleTurnsWrong)

/-- 'alembiclaw04.CycleApart': WHATEVER THE INPUT: true; the input reads as it did. -/
def cycleApartSpec : ChangeSpec := { name := "cycleApart", fn := fun _ => fun
  | [d1, d2] => { results := [.lit (.bool true)], args := [d1, d2] }
  | _ => none }
def cycleApartRow : OpenClaim := { program := "ytcaljjnadbpacaadoor", sum := "6210fbb2ee1d6070ddd764fe9d55c61e80595f19220c45bb435aeeff9289b76a", func := "alembic/alembiclaw04.CycleApart", spec := "cycleApart", unfollowed := true, recurses := true, named := ["alembic/edge.comms", "alembic/edge.deps", "alembic/edge.sets", "alembic/edge.ends"], apart := false, laid := [("alembic/edge.comms", laid_alembic_edge_comms), ("alembic/edge.ends", laid_alembic_edge_ends), ("alembic/edge.sets", laid_alembic_edge_sets), ("alembic/edge.deps", laid_alembic_edge_deps)] }
def CycleApartSaid : Prop := cycleApartRow.holds Tryd.pinned (OpenSpec.ofChange cycleApartSpec)

/-- ITS FALSE NEIGHBOUR: 'it returns false'. Refute it at one input. -/
def cycleApartWrong : ChangeSpec := { name := "cycleApart", fn := fun _ => fun
  | [d1, d2] => { results := [.lit (.bool false)], args := [d1, d2] }
  | _ => none }
def CycleApartWrongFalsely : Prop := cycleApartRow.holds Tryd.pinned (OpenSpec.ofChange cycleApartWrong)

/-- 'alembiclaw04.CycleBlanks': WHATEVER THE INPUT: true; the input reads as it did. -/
def cycleBlanksSpec : ChangeSpec := { name := "cycleBlanks", fn := fun _ => fun
  | [d1, d2] => { results := [.lit (.bool true)], args := [d1, d2] }
  | _ => none }
def cycleBlanksRow : OpenClaim := { program := "ytcaljjnadbpacaadoor", sum := "6210fbb2ee1d6070ddd764fe9d55c61e80595f19220c45bb435aeeff9289b76a", func := "alembic/alembiclaw04.CycleBlanks", spec := "cycleBlanks", inPlace := ["internal/abi.NoEscape", "internal/bytealg.MakeNoZero"], unfollowed := true, recurses := true, named := ["alembic/edge.comms", "alembic/edge.deps", "alembic/edge.sets", "alembic/edge.ends"], apart := false, laid := [("alembic/edge.comms", laid_alembic_edge_comms), ("alembic/edge.ends", laid_alembic_edge_ends), ("alembic/edge.sets", laid_alembic_edge_sets), ("alembic/edge.deps", laid_alembic_edge_deps)] }
def CycleBlanksSaid : Prop := cycleBlanksRow.holds Tryd.pinned (OpenSpec.ofChange cycleBlanksSpec)

/-- ITS FALSE NEIGHBOUR: 'it returns false'. Refute it at one input. -/
def cycleBlanksWrong : ChangeSpec := { name := "cycleBlanks", fn := fun _ => fun
  | [d1, d2] => { results := [.lit (.bool false)], args := [d1, d2] }
  | _ => none }
def CycleBlanksWrongFalsely : Prop := cycleBlanksRow.holds Tryd.pinned (OpenSpec.ofChange cycleBlanksWrong)

/- THE SECOND FORM. 'bulk': how many values and letters a reading holds, each counted each time it is reached (what is shared counts as often as it is met; a slice's spare places count too). A statement '..UptoSaid' is the law's where the arguments, and the package variables that the reading takes, are together of bulk at most 1048576: NARROWER than '..Said'. Prove '..Said' where nothing that the law and all that it calls make is longer than what came in: it says more and counts as full. Else prove '..UptoSaid'. A law counts once. -/
mutual
def uptoBulk {H : Type} : DataW H → Nat
  | .lit (.string bytes) => bytes.length + 1
  | .lit _ => 1
  | .nil => 1
  | .ptr d => uptoBulk d + 1
  | .slice elems spare => uptoBulkAll elems + uptoBulkAll spare + 1
  | .agg parts => uptoBulkAll parts + 1
  | .iface _ d => uptoBulk d + 1
  | .map entries => uptoBulkEntries entries + 1
  | .held _ => 1
def uptoBulkAll {H : Type} : List (DataW H) → Nat
  | [] => 0
  | d :: r => uptoBulk d + uptoBulkAll r
def uptoBulkEntries {H : Type} : List (Lit × DataW H) → Nat
  | [] => 0
  | x :: r => uptoBulkEntry x + uptoBulkEntries r
def uptoBulkEntry {H : Type} : Lit × DataW H → Nat
  | (.string bytes, d) => bytes.length + uptoBulk d + 1
  | (_, d) => uptoBulk d + 1
 end
def uptoSmall : (H : Type) → List (DataW H) → Bool := fun _ ds => decide (uptoBulkAll ds ≤ 1048576)
def OpenSpec.upto (s : _root_.Go.ChangeSpec) : _root_.Go.OpenSpec := { _root_.Go.OpenSpec.ofChange s with cond := some uptoSmall }

/-- 'alembiclaw03.EdgeParses', WHERE WHAT IT READS IS OF BULK AT MOST 1048576: true; the input reads as it did. -/
def edgeParsesUptoRow : OpenClaim := { program := "ytcaljjnadbpacaadoor", sum := "6210fbb2ee1d6070ddd764fe9d55c61e80595f19220c45bb435aeeff9289b76a", func := "alembic/alembiclaw03.EdgeParses", spec := "edgeParses", named := ["alembic/edge.comms", "alembic/edge.deps", "alembic/edge.sets", "alembic/edge.ends"], apart := false, laid := [("alembic/edge.comms", laid_alembic_edge_comms), ("alembic/edge.ends", laid_alembic_edge_ends), ("alembic/edge.sets", laid_alembic_edge_sets), ("alembic/edge.deps", laid_alembic_edge_deps)], narrowed := true }
def EdgeParsesUptoSaid : Prop := edgeParsesUptoRow.holds Tryd.pinned (OpenSpec.upto edgeParsesSpec)

/-- 'alembiclaw03.EdgeCodes', WHERE WHAT IT READS IS OF BULK AT MOST 1048576: true; the input reads as it did. -/
def edgeCodesUptoRow : OpenClaim := { program := "ytcaljjnadbpacaadoor", sum := "6210fbb2ee1d6070ddd764fe9d55c61e80595f19220c45bb435aeeff9289b76a", func := "alembic/alembiclaw03.EdgeCodes", spec := "edgeCodes", named := ["alembic/edge.comms", "alembic/edge.deps", "alembic/edge.sets", "alembic/edge.ends"], apart := false, laid := [("alembic/edge.comms", laid_alembic_edge_comms), ("alembic/edge.ends", laid_alembic_edge_ends), ("alembic/edge.sets", laid_alembic_edge_sets), ("alembic/edge.deps", laid_alembic_edge_deps)], narrowed := true }
def EdgeCodesUptoSaid : Prop := edgeCodesUptoRow.holds Tryd.pinned (OpenSpec.upto edgeCodesSpec)

/-- 'alembiclaw03.EdgeOf', WHERE WHAT IT READS IS OF BULK AT MOST 1048576: true; the input reads as it did. -/
def edgeOfUptoRow : OpenClaim := { program := "ytcaljjnadbpacaadoor", sum := "6210fbb2ee1d6070ddd764fe9d55c61e80595f19220c45bb435aeeff9289b76a", func := "alembic/alembiclaw03.EdgeOf", spec := "edgeOf", named := ["alembic/edge.comms", "alembic/edge.deps", "alembic/edge.sets", "alembic/edge.ends"], apart := false, laid := [("alembic/edge.comms", laid_alembic_edge_comms), ("alembic/edge.ends", laid_alembic_edge_ends), ("alembic/edge.sets", laid_alembic_edge_sets), ("alembic/edge.deps", laid_alembic_edge_deps)], narrowed := true }
def EdgeOfUptoSaid : Prop := edgeOfUptoRow.holds Tryd.pinned (OpenSpec.upto edgeOfSpec)

/-- 'alembiclaw03.EdgeBack', WHERE WHAT IT READS IS OF BULK AT MOST 1048576: true; the input reads as it did. -/
def edgeBackUptoRow : OpenClaim := { program := "ytcaljjnadbpacaadoor", sum := "6210fbb2ee1d6070ddd764fe9d55c61e80595f19220c45bb435aeeff9289b76a", func := "alembic/alembiclaw03.EdgeBack", spec := "edgeBack", named := ["alembic/edge.comms", "alembic/edge.deps", "alembic/edge.sets", "alembic/edge.ends"], apart := false, laid := [("alembic/edge.comms", laid_alembic_edge_comms), ("alembic/edge.ends", laid_alembic_edge_ends), ("alembic/edge.sets", laid_alembic_edge_sets), ("alembic/edge.deps", laid_alembic_edge_deps)], narrowed := true }
def EdgeBackUptoSaid : Prop := edgeBackUptoRow.holds Tryd.pinned (OpenSpec.upto edgeBackSpec)

/-- 'alembiclaw03.EdgeLegal', WHERE WHAT IT READS IS OF BULK AT MOST 1048576: true; the input reads as it did. -/
def edgeLegalUptoRow : OpenClaim := { program := "ytcaljjnadbpacaadoor", sum := "6210fbb2ee1d6070ddd764fe9d55c61e80595f19220c45bb435aeeff9289b76a", func := "alembic/alembiclaw03.EdgeLegal", spec := "edgeLegal", named := ["alembic/edge.comms", "alembic/edge.deps", "alembic/edge.sets", "alembic/edge.ends"], apart := false, laid := [("alembic/edge.comms", laid_alembic_edge_comms), ("alembic/edge.ends", laid_alembic_edge_ends), ("alembic/edge.sets", laid_alembic_edge_sets), ("alembic/edge.deps", laid_alembic_edge_deps)], narrowed := true }
def EdgeLegalUptoSaid : Prop := edgeLegalUptoRow.holds Tryd.pinned (OpenSpec.upto edgeLegalSpec)

/-- 'alembiclaw03.EdgeOrder', WHERE WHAT IT READS IS OF BULK AT MOST 1048576: true; the input reads as it did. -/
def edgeOrderUptoRow : OpenClaim := { program := "ytcaljjnadbpacaadoor", sum := "6210fbb2ee1d6070ddd764fe9d55c61e80595f19220c45bb435aeeff9289b76a", func := "alembic/alembiclaw03.EdgeOrder", spec := "edgeOrder", named := ["alembic/edge.comms", "alembic/edge.deps", "alembic/edge.sets", "alembic/edge.ends"], apart := false, laid := [("alembic/edge.comms", laid_alembic_edge_comms), ("alembic/edge.ends", laid_alembic_edge_ends), ("alembic/edge.sets", laid_alembic_edge_sets), ("alembic/edge.deps", laid_alembic_edge_deps)], narrowed := true }
def EdgeOrderUptoSaid : Prop := edgeOrderUptoRow.holds Tryd.pinned (OpenSpec.upto edgeOrderSpec)

/-- 'alembiclaw03.EdgeTotal', WHERE WHAT IT READS IS OF BULK AT MOST 1048576: true; the input reads as it did. -/
def edgeTotalUptoRow : OpenClaim := { program := "ytcaljjnadbpacaadoor", sum := "6210fbb2ee1d6070ddd764fe9d55c61e80595f19220c45bb435aeeff9289b76a", func := "alembic/alembiclaw03.EdgeTotal", spec := "edgeTotal", named := ["alembic/edge.comms", "alembic/edge.deps", "alembic/edge.sets", "alembic/edge.ends"], apart := false, laid := [("alembic/edge.comms", laid_alembic_edge_comms), ("alembic/edge.ends", laid_alembic_edge_ends), ("alembic/edge.sets", laid_alembic_edge_sets), ("alembic/edge.deps", laid_alembic_edge_deps)], narrowed := true }
def EdgeTotalUptoSaid : Prop := edgeTotalUptoRow.holds Tryd.pinned (OpenSpec.upto edgeTotalSpec)

/-- 'alembiclaw03.EdgeAll', WHERE WHAT IT READS IS OF BULK AT MOST 1048576: true; the input reads as it did. -/
def edgeAllUptoRow : OpenClaim := { program := "ytcaljjnadbpacaadoor", sum := "6210fbb2ee1d6070ddd764fe9d55c61e80595f19220c45bb435aeeff9289b76a", func := "alembic/alembiclaw03.EdgeAll", spec := "edgeAll", named := ["alembic/edge.comms", "alembic/edge.deps", "alembic/edge.sets", "alembic/edge.ends"], apart := false, laid := [("alembic/edge.comms", laid_alembic_edge_comms), ("alembic/edge.ends", laid_alembic_edge_ends), ("alembic/edge.sets", laid_alembic_edge_sets), ("alembic/edge.deps", laid_alembic_edge_deps)], narrowed := true }
def EdgeAllUptoSaid : Prop := edgeAllUptoRow.holds Tryd.pinned (OpenSpec.upto edgeAllSpec)

/-- 'alembiclaw04.CycleParses', WHERE WHAT IT READS IS OF BULK AT MOST 1048576: true; the input reads as it did. -/
def cycleParsesUptoRow : OpenClaim := { program := "ytcaljjnadbpacaadoor", sum := "6210fbb2ee1d6070ddd764fe9d55c61e80595f19220c45bb435aeeff9289b76a", func := "alembic/alembiclaw04.CycleParses", spec := "cycleParses", unfollowed := true, recurses := true, named := ["alembic/edge.comms", "alembic/edge.deps", "alembic/edge.sets", "alembic/edge.ends"], apart := false, laid := [("alembic/edge.comms", laid_alembic_edge_comms), ("alembic/edge.ends", laid_alembic_edge_ends), ("alembic/edge.sets", laid_alembic_edge_sets), ("alembic/edge.deps", laid_alembic_edge_deps)], narrowed := true }
def CycleParsesUptoSaid : Prop := cycleParsesUptoRow.holds Tryd.pinned (OpenSpec.upto cycleParsesSpec)

/-- 'alembiclaw04.CycleChecks', WHERE WHAT IT READS IS OF BULK AT MOST 1048576: true; the input reads as it did. -/
def cycleChecksUptoRow : OpenClaim := { program := "ytcaljjnadbpacaadoor", sum := "6210fbb2ee1d6070ddd764fe9d55c61e80595f19220c45bb435aeeff9289b76a", func := "alembic/alembiclaw04.CycleChecks", spec := "cycleChecks", unfollowed := true, recurses := true, named := ["alembic/edge.comms", "alembic/edge.deps", "alembic/edge.sets", "alembic/edge.ends"], apart := false, laid := [("alembic/edge.comms", laid_alembic_edge_comms), ("alembic/edge.ends", laid_alembic_edge_ends), ("alembic/edge.sets", laid_alembic_edge_sets), ("alembic/edge.deps", laid_alembic_edge_deps)], narrowed := true }
def CycleChecksUptoSaid : Prop := cycleChecksUptoRow.holds Tryd.pinned (OpenSpec.upto cycleChecksSpec)

/-- 'alembiclaw04.CycleNumbers', WHERE WHAT IT READS IS OF BULK AT MOST 1048576: true; the input reads as it did. -/
def cycleNumbersUptoRow : OpenClaim := { program := "ytcaljjnadbpacaadoor", sum := "6210fbb2ee1d6070ddd764fe9d55c61e80595f19220c45bb435aeeff9289b76a", func := "alembic/alembiclaw04.CycleNumbers", spec := "cycleNumbers", unfollowed := true, recurses := true, named := ["alembic/edge.comms", "alembic/edge.deps", "alembic/edge.sets", "alembic/edge.ends"], apart := false, laid := [("alembic/edge.comms", laid_alembic_edge_comms), ("alembic/edge.ends", laid_alembic_edge_ends), ("alembic/edge.sets", laid_alembic_edge_sets), ("alembic/edge.deps", laid_alembic_edge_deps)], narrowed := true }
def CycleNumbersUptoSaid : Prop := cycleNumbersUptoRow.holds Tryd.pinned (OpenSpec.upto cycleNumbersSpec)

/-- 'alembiclaw04.CycleParts', WHERE WHAT IT READS IS OF BULK AT MOST 1048576: true; the input reads as it did. -/
def cyclePartsUptoRow : OpenClaim := { program := "ytcaljjnadbpacaadoor", sum := "6210fbb2ee1d6070ddd764fe9d55c61e80595f19220c45bb435aeeff9289b76a", func := "alembic/alembiclaw04.CycleParts", spec := "cycleParts", unfollowed := true, recurses := true, named := ["alembic/edge.comms", "alembic/edge.deps", "alembic/edge.sets", "alembic/edge.ends"], apart := false, laid := [("alembic/edge.comms", laid_alembic_edge_comms), ("alembic/edge.ends", laid_alembic_edge_ends), ("alembic/edge.sets", laid_alembic_edge_sets), ("alembic/edge.deps", laid_alembic_edge_deps)], narrowed := true }
def CyclePartsUptoSaid : Prop := cyclePartsUptoRow.holds Tryd.pinned (OpenSpec.upto cyclePartsSpec)

/-- 'alembiclaw04.CyclePrints', WHERE WHAT IT READS IS OF BULK AT MOST 1048576: true; the input reads as it did. -/
def cyclePrintsUptoRow : OpenClaim := { program := "ytcaljjnadbpacaadoor", sum := "6210fbb2ee1d6070ddd764fe9d55c61e80595f19220c45bb435aeeff9289b76a", func := "alembic/alembiclaw04.CyclePrints", spec := "cyclePrints", inPlace := ["internal/abi.NoEscape", "internal/bytealg.MakeNoZero"], unfollowed := true, recurses := true, named := ["alembic/edge.comms", "alembic/edge.deps", "alembic/edge.sets", "alembic/edge.ends"], apart := false, laid := [("alembic/edge.comms", laid_alembic_edge_comms), ("alembic/edge.ends", laid_alembic_edge_ends), ("alembic/edge.sets", laid_alembic_edge_sets), ("alembic/edge.deps", laid_alembic_edge_deps)], narrowed := true }
def CyclePrintsUptoSaid : Prop := cyclePrintsUptoRow.holds Tryd.pinned (OpenSpec.upto cyclePrintsSpec)

/-- 'alembiclaw04.CycleTurned', WHERE WHAT IT READS IS OF BULK AT MOST 1048576: true; the input reads as it did. -/
def cycleTurnedUptoRow : OpenClaim := { program := "ytcaljjnadbpacaadoor", sum := "6210fbb2ee1d6070ddd764fe9d55c61e80595f19220c45bb435aeeff9289b76a", func := "alembic/alembiclaw04.CycleTurned", spec := "cycleTurned", unfollowed := true, recurses := true, named := ["alembic/edge.comms", "alembic/edge.deps", "alembic/edge.sets", "alembic/edge.ends"], apart := false, laid := [("alembic/edge.comms", laid_alembic_edge_comms), ("alembic/edge.ends", laid_alembic_edge_ends), ("alembic/edge.sets", laid_alembic_edge_sets), ("alembic/edge.deps", laid_alembic_edge_deps)], narrowed := true }
def CycleTurnedUptoSaid : Prop := cycleTurnedUptoRow.holds Tryd.pinned (OpenSpec.upto cycleTurnedSpec)

/-- 'alembiclaw04.CycleBack', WHERE WHAT IT READS IS OF BULK AT MOST 1048576: true; the input reads as it did. -/
def cycleBackUptoRow : OpenClaim := { program := "ytcaljjnadbpacaadoor", sum := "6210fbb2ee1d6070ddd764fe9d55c61e80595f19220c45bb435aeeff9289b76a", func := "alembic/alembiclaw04.CycleBack", spec := "cycleBack", inPlace := ["internal/abi.NoEscape", "internal/bytealg.MakeNoZero"], unfollowed := true, recurses := true, named := ["alembic/edge.comms", "alembic/edge.deps", "alembic/edge.sets", "alembic/edge.ends"], apart := false, laid := [("alembic/edge.comms", laid_alembic_edge_comms), ("alembic/edge.ends", laid_alembic_edge_ends), ("alembic/edge.sets", laid_alembic_edge_sets), ("alembic/edge.deps", laid_alembic_edge_deps)], narrowed := true }
def CycleBackUptoSaid : Prop := cycleBackUptoRow.holds Tryd.pinned (OpenSpec.upto cycleBackSpec)

/-- 'alembiclaw04.CycleTurns', WHERE WHAT IT READS IS OF BULK AT MOST 1048576: true; the input reads as it did. -/
def cycleTurnsUptoRow : OpenClaim := { program := "ytcaljjnadbpacaadoor", sum := "6210fbb2ee1d6070ddd764fe9d55c61e80595f19220c45bb435aeeff9289b76a", func := "alembic/alembiclaw04.CycleTurns", spec := "cycleTurns", unfollowed := true, recurses := true, named := ["alembic/edge.comms", "alembic/edge.deps", "alembic/edge.sets", "alembic/edge.ends"], apart := false, laid := [("alembic/edge.comms", laid_alembic_edge_comms), ("alembic/edge.ends", laid_alembic_edge_ends), ("alembic/edge.sets", laid_alembic_edge_sets), ("alembic/edge.deps", laid_alembic_edge_deps)], narrowed := true }
def CycleTurnsUptoSaid : Prop := cycleTurnsUptoRow.holds Tryd.pinned (OpenSpec.upto cycleTurnsSpec)

/-- 'alembiclaw04.CycleApart', WHERE WHAT IT READS IS OF BULK AT MOST 1048576: true; the input reads as it did. -/
def cycleApartUptoRow : OpenClaim := { program := "ytcaljjnadbpacaadoor", sum := "6210fbb2ee1d6070ddd764fe9d55c61e80595f19220c45bb435aeeff9289b76a", func := "alembic/alembiclaw04.CycleApart", spec := "cycleApart", unfollowed := true, recurses := true, named := ["alembic/edge.comms", "alembic/edge.deps", "alembic/edge.sets", "alembic/edge.ends"], apart := false, laid := [("alembic/edge.comms", laid_alembic_edge_comms), ("alembic/edge.ends", laid_alembic_edge_ends), ("alembic/edge.sets", laid_alembic_edge_sets), ("alembic/edge.deps", laid_alembic_edge_deps)], narrowed := true }
def CycleApartUptoSaid : Prop := cycleApartUptoRow.holds Tryd.pinned (OpenSpec.upto cycleApartSpec)

/-- 'alembiclaw04.CycleBlanks', WHERE WHAT IT READS IS OF BULK AT MOST 1048576: true; the input reads as it did. -/
def cycleBlanksUptoRow : OpenClaim := { program := "ytcaljjnadbpacaadoor", sum := "6210fbb2ee1d6070ddd764fe9d55c61e80595f19220c45bb435aeeff9289b76a", func := "alembic/alembiclaw04.CycleBlanks", spec := "cycleBlanks", inPlace := ["internal/abi.NoEscape", "internal/bytealg.MakeNoZero"], unfollowed := true, recurses := true, named := ["alembic/edge.comms", "alembic/edge.deps", "alembic/edge.sets", "alembic/edge.ends"], apart := false, laid := [("alembic/edge.comms", laid_alembic_edge_comms), ("alembic/edge.ends", laid_alembic_edge_ends), ("alembic/edge.sets", laid_alembic_edge_sets), ("alembic/edge.deps", laid_alembic_edge_deps)], narrowed := true }
def CycleBlanksUptoSaid : Prop := cycleBlanksUptoRow.holds Tryd.pinned (OpenSpec.upto cycleBlanksSpec)

end Rows
end Go.Proofs.YtcaljjnadbpacaaDoor
