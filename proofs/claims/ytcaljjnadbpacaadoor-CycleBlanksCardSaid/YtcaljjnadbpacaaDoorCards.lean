/-
  DERIVED. GIVEN WITH THE SEED: THE CARDS: each row of YtcaljjnadbpacaaDoorRows.lean that lists a variable, with what it lists TIED to the program's text (the seventh form; the later family's looks); each row that meets fmt, with fmt's text TOLD by the authors' own Lean function (tested against real Go, not proved from fmt's source: count such statements apart). THE CARD IS WHAT COUNTS. Prove the row's statement (the work); the ties are given (YtcaljjnadbpacaaDoorTie.lean); close each card by the builder's one call (the guide's Derived/Test/ToyasCard.lean, 'card_holds'). Laid BY PROGRAM, IN A SANDBOX (cutbox-door.mjs). By AI agents, Wed Nov 11 2026. No macro, syntax, notation, axiom, sorry.
-/
import Derived.Test.YtcaljjnadbpacaaDoorRows
import GoSem.ClaimSeven
namespace Go.Proofs.YtcaljjnadbpacaaDoor
namespace Rows

/-- THE TIED CARD OF 'alembiclaw03.EdgeParses'. -/
def edgeParsesCard : Claim7 := { stood := { row := edgeParsesRow, standIns := [], harness := (true, "2f7d3385594d60ec93e1fe38f6e4691db1bfcac858e897e2107be3074b4aae47"), looks := false }, kinds := [], alts := [], laidByText := true, laidKinds := [.data, .data, .data, .data], laidTests := true, laidLooks := .later }
def EdgeParsesCardSaid : Prop := Claim7.holds Tryd.pinned (.plain (OpenSpec.ofChange edgeParsesSpec)) edgeParsesCard

/-- THE TIED CARD OF 'alembiclaw03.EdgeCodes'. -/
def edgeCodesCard : Claim7 := { stood := { row := edgeCodesRow, standIns := [], harness := (true, "2f7d3385594d60ec93e1fe38f6e4691db1bfcac858e897e2107be3074b4aae47"), looks := false }, kinds := [], alts := [], laidByText := true, laidKinds := [.data, .data, .data, .data], laidTests := true, laidLooks := .later }
def EdgeCodesCardSaid : Prop := Claim7.holds Tryd.pinned (.plain (OpenSpec.ofChange edgeCodesSpec)) edgeCodesCard

/-- THE TIED CARD OF 'alembiclaw03.EdgeOf'. -/
def edgeOfCard : Claim7 := { stood := { row := edgeOfRow, standIns := [], harness := (true, "2f7d3385594d60ec93e1fe38f6e4691db1bfcac858e897e2107be3074b4aae47"), looks := false }, kinds := [], alts := [], laidByText := true, laidKinds := [.data, .data, .data, .data], laidTests := true, laidLooks := .later }
def EdgeOfCardSaid : Prop := Claim7.holds Tryd.pinned (.plain (OpenSpec.ofChange edgeOfSpec)) edgeOfCard

/-- THE TIED CARD OF 'alembiclaw03.EdgeBack'. -/
def edgeBackCard : Claim7 := { stood := { row := edgeBackRow, standIns := [], harness := (true, "2f7d3385594d60ec93e1fe38f6e4691db1bfcac858e897e2107be3074b4aae47"), looks := false }, kinds := [], alts := [], laidByText := true, laidKinds := [.data, .data, .data, .data], laidTests := true, laidLooks := .later }
def EdgeBackCardSaid : Prop := Claim7.holds Tryd.pinned (.plain (OpenSpec.ofChange edgeBackSpec)) edgeBackCard

/-- THE TIED CARD OF 'alembiclaw03.EdgeLegal'. -/
def edgeLegalCard : Claim7 := { stood := { row := edgeLegalRow, standIns := [], harness := (true, "2f7d3385594d60ec93e1fe38f6e4691db1bfcac858e897e2107be3074b4aae47"), looks := false }, kinds := [], alts := [], laidByText := true, laidKinds := [.data, .data, .data, .data], laidTests := true, laidLooks := .later }
def EdgeLegalCardSaid : Prop := Claim7.holds Tryd.pinned (.plain (OpenSpec.ofChange edgeLegalSpec)) edgeLegalCard

/-- THE TIED CARD OF 'alembiclaw03.EdgeOrder'. -/
def edgeOrderCard : Claim7 := { stood := { row := edgeOrderRow, standIns := [], harness := (true, "2f7d3385594d60ec93e1fe38f6e4691db1bfcac858e897e2107be3074b4aae47"), looks := false }, kinds := [], alts := [], laidByText := true, laidKinds := [.data, .data, .data, .data], laidTests := true, laidLooks := .later }
def EdgeOrderCardSaid : Prop := Claim7.holds Tryd.pinned (.plain (OpenSpec.ofChange edgeOrderSpec)) edgeOrderCard

/-- THE TIED CARD OF 'alembiclaw03.EdgeTotal'. -/
def edgeTotalCard : Claim7 := { stood := { row := edgeTotalRow, standIns := [], harness := (true, "2f7d3385594d60ec93e1fe38f6e4691db1bfcac858e897e2107be3074b4aae47"), looks := false }, kinds := [], alts := [], laidByText := true, laidKinds := [.data, .data, .data, .data], laidTests := true, laidLooks := .later }
def EdgeTotalCardSaid : Prop := Claim7.holds Tryd.pinned (.plain (OpenSpec.ofChange edgeTotalSpec)) edgeTotalCard

/-- THE TIED CARD OF 'alembiclaw03.EdgeAll'. -/
def edgeAllCard : Claim7 := { stood := { row := edgeAllRow, standIns := [], harness := (true, "2f7d3385594d60ec93e1fe38f6e4691db1bfcac858e897e2107be3074b4aae47"), looks := false }, kinds := [], alts := [], laidByText := true, laidKinds := [.data, .data, .data, .data], laidTests := true, laidLooks := .later }
def EdgeAllCardSaid : Prop := Claim7.holds Tryd.pinned (.plain (OpenSpec.ofChange edgeAllSpec)) edgeAllCard

/-- THE TIED CARD OF 'alembiclaw04.CycleParses'. -/
def cycleParsesCard : Claim7 := { stood := { row := cycleParsesRow, standIns := [], harness := (true, "2f7d3385594d60ec93e1fe38f6e4691db1bfcac858e897e2107be3074b4aae47"), looks := false }, kinds := [], alts := [], laidByText := true, laidKinds := [.data, .data, .data, .data], laidTests := true, laidLooks := .later }
def CycleParsesCardSaid : Prop := Claim7.holds Tryd.pinned (.plain (OpenSpec.ofChange cycleParsesSpec)) cycleParsesCard

/-- THE TIED CARD OF 'alembiclaw04.CycleChecks'. -/
def cycleChecksCard : Claim7 := { stood := { row := cycleChecksRow, standIns := [], harness := (true, "2f7d3385594d60ec93e1fe38f6e4691db1bfcac858e897e2107be3074b4aae47"), looks := false }, kinds := [], alts := [], laidByText := true, laidKinds := [.data, .data, .data, .data], laidTests := true, laidLooks := .later }
def CycleChecksCardSaid : Prop := Claim7.holds Tryd.pinned (.plain (OpenSpec.ofChange cycleChecksSpec)) cycleChecksCard

/-- THE TIED CARD OF 'alembiclaw04.CycleNumbers'. -/
def cycleNumbersCard : Claim7 := { stood := { row := cycleNumbersRow, standIns := [], harness := (true, "2f7d3385594d60ec93e1fe38f6e4691db1bfcac858e897e2107be3074b4aae47"), looks := false }, kinds := [], alts := [], laidByText := true, laidKinds := [.data, .data, .data, .data], laidTests := true, laidLooks := .later }
def CycleNumbersCardSaid : Prop := Claim7.holds Tryd.pinned (.plain (OpenSpec.ofChange cycleNumbersSpec)) cycleNumbersCard

/-- THE TIED CARD OF 'alembiclaw04.CycleParts'. -/
def cyclePartsCard : Claim7 := { stood := { row := cyclePartsRow, standIns := [], harness := (true, "2f7d3385594d60ec93e1fe38f6e4691db1bfcac858e897e2107be3074b4aae47"), looks := false }, kinds := [], alts := [], laidByText := true, laidKinds := [.data, .data, .data, .data], laidTests := true, laidLooks := .later }
def CyclePartsCardSaid : Prop := Claim7.holds Tryd.pinned (.plain (OpenSpec.ofChange cyclePartsSpec)) cyclePartsCard

/-- THE TIED CARD OF 'alembiclaw04.CyclePrints'. -/
def cyclePrintsCard : Claim7 := { stood := { row := cyclePrintsRow, standIns := [], harness := (true, "2f7d3385594d60ec93e1fe38f6e4691db1bfcac858e897e2107be3074b4aae47"), looks := false }, kinds := [], alts := [], laidByText := true, laidKinds := [.data, .data, .data, .data], laidTests := true, laidLooks := .later }
def CyclePrintsCardSaid : Prop := Claim7.holds Tryd.pinned (.plain (OpenSpec.ofChange cyclePrintsSpec)) cyclePrintsCard

/-- THE TIED CARD OF 'alembiclaw04.CycleTurned'. -/
def cycleTurnedCard : Claim7 := { stood := { row := cycleTurnedRow, standIns := [], harness := (true, "2f7d3385594d60ec93e1fe38f6e4691db1bfcac858e897e2107be3074b4aae47"), looks := false }, kinds := [], alts := [], laidByText := true, laidKinds := [.data, .data, .data, .data], laidTests := true, laidLooks := .later }
def CycleTurnedCardSaid : Prop := Claim7.holds Tryd.pinned (.plain (OpenSpec.ofChange cycleTurnedSpec)) cycleTurnedCard

/-- THE TIED CARD OF 'alembiclaw04.CycleBack'. -/
def cycleBackCard : Claim7 := { stood := { row := cycleBackRow, standIns := [], harness := (true, "2f7d3385594d60ec93e1fe38f6e4691db1bfcac858e897e2107be3074b4aae47"), looks := false }, kinds := [], alts := [], laidByText := true, laidKinds := [.data, .data, .data, .data], laidTests := true, laidLooks := .later }
def CycleBackCardSaid : Prop := Claim7.holds Tryd.pinned (.plain (OpenSpec.ofChange cycleBackSpec)) cycleBackCard

/-- THE TIED CARD OF 'alembiclaw04.CycleTurns'. -/
def cycleTurnsCard : Claim7 := { stood := { row := cycleTurnsRow, standIns := [], harness := (true, "2f7d3385594d60ec93e1fe38f6e4691db1bfcac858e897e2107be3074b4aae47"), looks := false }, kinds := [], alts := [], laidByText := true, laidKinds := [.data, .data, .data, .data], laidTests := true, laidLooks := .later }
def CycleTurnsCardSaid : Prop := Claim7.holds Tryd.pinned (.plain (OpenSpec.ofChange cycleTurnsSpec)) cycleTurnsCard

/-- THE TIED CARD OF 'alembiclaw04.CycleApart'. -/
def cycleApartCard : Claim7 := { stood := { row := cycleApartRow, standIns := [], harness := (true, "2f7d3385594d60ec93e1fe38f6e4691db1bfcac858e897e2107be3074b4aae47"), looks := false }, kinds := [], alts := [], laidByText := true, laidKinds := [.data, .data, .data, .data], laidTests := true, laidLooks := .later }
def CycleApartCardSaid : Prop := Claim7.holds Tryd.pinned (.plain (OpenSpec.ofChange cycleApartSpec)) cycleApartCard

/-- THE TIED CARD OF 'alembiclaw04.CycleBlanks'. -/
def cycleBlanksCard : Claim7 := { stood := { row := cycleBlanksRow, standIns := [], harness := (true, "2f7d3385594d60ec93e1fe38f6e4691db1bfcac858e897e2107be3074b4aae47"), looks := false }, kinds := [], alts := [], laidByText := true, laidKinds := [.data, .data, .data, .data], laidTests := true, laidLooks := .later }
def CycleBlanksCardSaid : Prop := Claim7.holds Tryd.pinned (.plain (OpenSpec.ofChange cycleBlanksSpec)) cycleBlanksCard

/-- THE SECOND FORM's CARD OF 'alembiclaw03.EdgeParses'. -/
def edgeParsesUptoCard : Claim7 := { stood := { row := edgeParsesUptoRow, standIns := [], harness := (true, "2f7d3385594d60ec93e1fe38f6e4691db1bfcac858e897e2107be3074b4aae47"), looks := false }, kinds := [], alts := [], laidByText := true, laidKinds := [.data, .data, .data, .data], laidTests := true, laidLooks := .later }
def EdgeParsesUptoCardSaid : Prop := Claim7.holds Tryd.pinned (.plain (OpenSpec.upto edgeParsesSpec)) edgeParsesUptoCard

/-- THE SECOND FORM's CARD OF 'alembiclaw03.EdgeCodes'. -/
def edgeCodesUptoCard : Claim7 := { stood := { row := edgeCodesUptoRow, standIns := [], harness := (true, "2f7d3385594d60ec93e1fe38f6e4691db1bfcac858e897e2107be3074b4aae47"), looks := false }, kinds := [], alts := [], laidByText := true, laidKinds := [.data, .data, .data, .data], laidTests := true, laidLooks := .later }
def EdgeCodesUptoCardSaid : Prop := Claim7.holds Tryd.pinned (.plain (OpenSpec.upto edgeCodesSpec)) edgeCodesUptoCard

/-- THE SECOND FORM's CARD OF 'alembiclaw03.EdgeOf'. -/
def edgeOfUptoCard : Claim7 := { stood := { row := edgeOfUptoRow, standIns := [], harness := (true, "2f7d3385594d60ec93e1fe38f6e4691db1bfcac858e897e2107be3074b4aae47"), looks := false }, kinds := [], alts := [], laidByText := true, laidKinds := [.data, .data, .data, .data], laidTests := true, laidLooks := .later }
def EdgeOfUptoCardSaid : Prop := Claim7.holds Tryd.pinned (.plain (OpenSpec.upto edgeOfSpec)) edgeOfUptoCard

/-- THE SECOND FORM's CARD OF 'alembiclaw03.EdgeBack'. -/
def edgeBackUptoCard : Claim7 := { stood := { row := edgeBackUptoRow, standIns := [], harness := (true, "2f7d3385594d60ec93e1fe38f6e4691db1bfcac858e897e2107be3074b4aae47"), looks := false }, kinds := [], alts := [], laidByText := true, laidKinds := [.data, .data, .data, .data], laidTests := true, laidLooks := .later }
def EdgeBackUptoCardSaid : Prop := Claim7.holds Tryd.pinned (.plain (OpenSpec.upto edgeBackSpec)) edgeBackUptoCard

/-- THE SECOND FORM's CARD OF 'alembiclaw03.EdgeLegal'. -/
def edgeLegalUptoCard : Claim7 := { stood := { row := edgeLegalUptoRow, standIns := [], harness := (true, "2f7d3385594d60ec93e1fe38f6e4691db1bfcac858e897e2107be3074b4aae47"), looks := false }, kinds := [], alts := [], laidByText := true, laidKinds := [.data, .data, .data, .data], laidTests := true, laidLooks := .later }
def EdgeLegalUptoCardSaid : Prop := Claim7.holds Tryd.pinned (.plain (OpenSpec.upto edgeLegalSpec)) edgeLegalUptoCard

/-- THE SECOND FORM's CARD OF 'alembiclaw03.EdgeOrder'. -/
def edgeOrderUptoCard : Claim7 := { stood := { row := edgeOrderUptoRow, standIns := [], harness := (true, "2f7d3385594d60ec93e1fe38f6e4691db1bfcac858e897e2107be3074b4aae47"), looks := false }, kinds := [], alts := [], laidByText := true, laidKinds := [.data, .data, .data, .data], laidTests := true, laidLooks := .later }
def EdgeOrderUptoCardSaid : Prop := Claim7.holds Tryd.pinned (.plain (OpenSpec.upto edgeOrderSpec)) edgeOrderUptoCard

/-- THE SECOND FORM's CARD OF 'alembiclaw03.EdgeTotal'. -/
def edgeTotalUptoCard : Claim7 := { stood := { row := edgeTotalUptoRow, standIns := [], harness := (true, "2f7d3385594d60ec93e1fe38f6e4691db1bfcac858e897e2107be3074b4aae47"), looks := false }, kinds := [], alts := [], laidByText := true, laidKinds := [.data, .data, .data, .data], laidTests := true, laidLooks := .later }
def EdgeTotalUptoCardSaid : Prop := Claim7.holds Tryd.pinned (.plain (OpenSpec.upto edgeTotalSpec)) edgeTotalUptoCard

/-- THE SECOND FORM's CARD OF 'alembiclaw03.EdgeAll'. -/
def edgeAllUptoCard : Claim7 := { stood := { row := edgeAllUptoRow, standIns := [], harness := (true, "2f7d3385594d60ec93e1fe38f6e4691db1bfcac858e897e2107be3074b4aae47"), looks := false }, kinds := [], alts := [], laidByText := true, laidKinds := [.data, .data, .data, .data], laidTests := true, laidLooks := .later }
def EdgeAllUptoCardSaid : Prop := Claim7.holds Tryd.pinned (.plain (OpenSpec.upto edgeAllSpec)) edgeAllUptoCard

/-- THE SECOND FORM's CARD OF 'alembiclaw04.CycleParses'. -/
def cycleParsesUptoCard : Claim7 := { stood := { row := cycleParsesUptoRow, standIns := [], harness := (true, "2f7d3385594d60ec93e1fe38f6e4691db1bfcac858e897e2107be3074b4aae47"), looks := false }, kinds := [], alts := [], laidByText := true, laidKinds := [.data, .data, .data, .data], laidTests := true, laidLooks := .later }
def CycleParsesUptoCardSaid : Prop := Claim7.holds Tryd.pinned (.plain (OpenSpec.upto cycleParsesSpec)) cycleParsesUptoCard

/-- THE SECOND FORM's CARD OF 'alembiclaw04.CycleChecks'. -/
def cycleChecksUptoCard : Claim7 := { stood := { row := cycleChecksUptoRow, standIns := [], harness := (true, "2f7d3385594d60ec93e1fe38f6e4691db1bfcac858e897e2107be3074b4aae47"), looks := false }, kinds := [], alts := [], laidByText := true, laidKinds := [.data, .data, .data, .data], laidTests := true, laidLooks := .later }
def CycleChecksUptoCardSaid : Prop := Claim7.holds Tryd.pinned (.plain (OpenSpec.upto cycleChecksSpec)) cycleChecksUptoCard

/-- THE SECOND FORM's CARD OF 'alembiclaw04.CycleNumbers'. -/
def cycleNumbersUptoCard : Claim7 := { stood := { row := cycleNumbersUptoRow, standIns := [], harness := (true, "2f7d3385594d60ec93e1fe38f6e4691db1bfcac858e897e2107be3074b4aae47"), looks := false }, kinds := [], alts := [], laidByText := true, laidKinds := [.data, .data, .data, .data], laidTests := true, laidLooks := .later }
def CycleNumbersUptoCardSaid : Prop := Claim7.holds Tryd.pinned (.plain (OpenSpec.upto cycleNumbersSpec)) cycleNumbersUptoCard

/-- THE SECOND FORM's CARD OF 'alembiclaw04.CycleParts'. -/
def cyclePartsUptoCard : Claim7 := { stood := { row := cyclePartsUptoRow, standIns := [], harness := (true, "2f7d3385594d60ec93e1fe38f6e4691db1bfcac858e897e2107be3074b4aae47"), looks := false }, kinds := [], alts := [], laidByText := true, laidKinds := [.data, .data, .data, .data], laidTests := true, laidLooks := .later }
def CyclePartsUptoCardSaid : Prop := Claim7.holds Tryd.pinned (.plain (OpenSpec.upto cyclePartsSpec)) cyclePartsUptoCard

/-- THE SECOND FORM's CARD OF 'alembiclaw04.CyclePrints'. -/
def cyclePrintsUptoCard : Claim7 := { stood := { row := cyclePrintsUptoRow, standIns := [], harness := (true, "2f7d3385594d60ec93e1fe38f6e4691db1bfcac858e897e2107be3074b4aae47"), looks := false }, kinds := [], alts := [], laidByText := true, laidKinds := [.data, .data, .data, .data], laidTests := true, laidLooks := .later }
def CyclePrintsUptoCardSaid : Prop := Claim7.holds Tryd.pinned (.plain (OpenSpec.upto cyclePrintsSpec)) cyclePrintsUptoCard

/-- THE SECOND FORM's CARD OF 'alembiclaw04.CycleTurned'. -/
def cycleTurnedUptoCard : Claim7 := { stood := { row := cycleTurnedUptoRow, standIns := [], harness := (true, "2f7d3385594d60ec93e1fe38f6e4691db1bfcac858e897e2107be3074b4aae47"), looks := false }, kinds := [], alts := [], laidByText := true, laidKinds := [.data, .data, .data, .data], laidTests := true, laidLooks := .later }
def CycleTurnedUptoCardSaid : Prop := Claim7.holds Tryd.pinned (.plain (OpenSpec.upto cycleTurnedSpec)) cycleTurnedUptoCard

/-- THE SECOND FORM's CARD OF 'alembiclaw04.CycleBack'. -/
def cycleBackUptoCard : Claim7 := { stood := { row := cycleBackUptoRow, standIns := [], harness := (true, "2f7d3385594d60ec93e1fe38f6e4691db1bfcac858e897e2107be3074b4aae47"), looks := false }, kinds := [], alts := [], laidByText := true, laidKinds := [.data, .data, .data, .data], laidTests := true, laidLooks := .later }
def CycleBackUptoCardSaid : Prop := Claim7.holds Tryd.pinned (.plain (OpenSpec.upto cycleBackSpec)) cycleBackUptoCard

/-- THE SECOND FORM's CARD OF 'alembiclaw04.CycleTurns'. -/
def cycleTurnsUptoCard : Claim7 := { stood := { row := cycleTurnsUptoRow, standIns := [], harness := (true, "2f7d3385594d60ec93e1fe38f6e4691db1bfcac858e897e2107be3074b4aae47"), looks := false }, kinds := [], alts := [], laidByText := true, laidKinds := [.data, .data, .data, .data], laidTests := true, laidLooks := .later }
def CycleTurnsUptoCardSaid : Prop := Claim7.holds Tryd.pinned (.plain (OpenSpec.upto cycleTurnsSpec)) cycleTurnsUptoCard

/-- THE SECOND FORM's CARD OF 'alembiclaw04.CycleApart'. -/
def cycleApartUptoCard : Claim7 := { stood := { row := cycleApartUptoRow, standIns := [], harness := (true, "2f7d3385594d60ec93e1fe38f6e4691db1bfcac858e897e2107be3074b4aae47"), looks := false }, kinds := [], alts := [], laidByText := true, laidKinds := [.data, .data, .data, .data], laidTests := true, laidLooks := .later }
def CycleApartUptoCardSaid : Prop := Claim7.holds Tryd.pinned (.plain (OpenSpec.upto cycleApartSpec)) cycleApartUptoCard

/-- THE SECOND FORM's CARD OF 'alembiclaw04.CycleBlanks'. -/
def cycleBlanksUptoCard : Claim7 := { stood := { row := cycleBlanksUptoRow, standIns := [], harness := (true, "2f7d3385594d60ec93e1fe38f6e4691db1bfcac858e897e2107be3074b4aae47"), looks := false }, kinds := [], alts := [], laidByText := true, laidKinds := [.data, .data, .data, .data], laidTests := true, laidLooks := .later }
def CycleBlanksUptoCardSaid : Prop := Claim7.holds Tryd.pinned (.plain (OpenSpec.upto cycleBlanksSpec)) cycleBlanksUptoCard
end Rows
end Go.Proofs.YtcaljjnadbpacaaDoor
