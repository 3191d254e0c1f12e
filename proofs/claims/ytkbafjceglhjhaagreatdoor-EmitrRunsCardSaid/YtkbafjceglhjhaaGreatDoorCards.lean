/-
  DERIVED. GIVEN WITH THE SEED: THE CARDS: each row of YtkbafjceglhjhaaGreatDoorRows.lean that lists a variable, with what it lists TIED to the program's text (the seventh form; the later family's looks); each row that meets fmt, with fmt's text TOLD by the authors' own Lean function (tested against real Go, not proved from fmt's source: count such statements apart). THE CARD IS WHAT COUNTS. Prove the row's statement (the work); the ties are given (YtkbafjceglhjhaaGreatDoorTie.lean); close each card by the builder's one call (the guide's Derived/Test/ToyasCard.lean, 'card_holds'). Laid BY PROGRAM, IN A SANDBOX (cutbox-door.mjs). By AI agents, Wed Nov 11 2026. No macro, syntax, notation, axiom, sorry.
-/
import Derived.Test.YtkbafjceglhjhaaGreatDoorRows
import GoSem.ClaimSeven
namespace Go.Proofs.YtkbafjceglhjhaaGreatDoor
namespace Rows

/-- THE TIED CARD OF 'alembiclaw12.EmitrCodes'. -/
def emitrCodesCard : Claim7 := { stood := { row := emitrCodesRow, standIns := [], harness := (true, "b4cc687bc04cb4b715c00fc33a700684ec5f5b9c6cebef7e0af8dd3cbc5450ea"), looks := false }, kinds := [], alts := [], laidByText := true, laidKinds := [.data, .data, .data, .data, .data, .data, .data], laidTests := true, laidLooks := .later }
def EmitrCodesCardSaid : Prop := Claim7.holds Tryz.pinned (.plain (OpenSpec.ofChange emitrCodesSpec)) emitrCodesCard

/-- THE TIED CARD OF 'alembiclaw12.EmitrTests'. -/
def emitrTestsCard : Claim7 := { stood := { row := emitrTestsRow, standIns := [], harness := (true, "b4cc687bc04cb4b715c00fc33a700684ec5f5b9c6cebef7e0af8dd3cbc5450ea"), looks := false }, kinds := [], alts := [], laidByText := true, laidKinds := [.data, .data, .data, .data, .data, .data, .data], laidTests := true, laidLooks := .later }
def EmitrTestsCardSaid : Prop := Claim7.holds Tryz.pinned (.plain (OpenSpec.ofChange emitrTestsSpec)) emitrTestsCard

/-- THE TIED CARD OF 'alembiclaw12.EmitrRegs'. -/
def emitrRegsCard : Claim7 := { stood := { row := emitrRegsRow, standIns := [], harness := (true, "b4cc687bc04cb4b715c00fc33a700684ec5f5b9c6cebef7e0af8dd3cbc5450ea"), looks := false }, kinds := [], alts := [], laidByText := true, laidKinds := [.data, .data, .data, .data, .data, .data, .data], laidTests := true, laidLooks := .later }
def EmitrRegsCardSaid : Prop := Claim7.holds Tryz.pinned (.plain (OpenSpec.ofChange emitrRegsSpec)) emitrRegsCard

/-- THE TIED CARD OF 'alembiclaw12.EmitrHangs'. -/
def emitrHangsCard : Claim7 := { stood := { row := emitrHangsRow, standIns := [], harness := (true, "b4cc687bc04cb4b715c00fc33a700684ec5f5b9c6cebef7e0af8dd3cbc5450ea"), looks := false }, kinds := [], alts := [], laidByText := true, laidKinds := [.data, .data, .data, .data, .data, .data, .data], laidTests := true, laidLooks := .later }
def EmitrHangsCardSaid : Prop := Claim7.holds Tryz.pinned (.plain (OpenSpec.ofChange emitrHangsSpec)) emitrHangsCard

/-- THE TIED CARD OF 'alembiclaw12.EmitrRuns'. -/
def emitrRunsCard : Claim7 := { stood := { row := emitrRunsRow, standIns := [], harness := (true, "b4cc687bc04cb4b715c00fc33a700684ec5f5b9c6cebef7e0af8dd3cbc5450ea"), looks := false }, kinds := [], alts := [], laidByText := true, laidKinds := [.data, .data, .data, .data, .data, .data, .data], laidTests := true, laidLooks := .later }
def EmitrRunsCardSaid : Prop := Claim7.holds Tryz.pinned (.plain (OpenSpec.ofChange emitrRunsSpec)) emitrRunsCard

/-- THE SECOND FORM's CARD OF 'alembiclaw12.EmitrCodes'. -/
def emitrCodesUptoCard : Claim7 := { stood := { row := emitrCodesUptoRow, standIns := [], harness := (true, "b4cc687bc04cb4b715c00fc33a700684ec5f5b9c6cebef7e0af8dd3cbc5450ea"), looks := false }, kinds := [], alts := [], laidByText := true, laidKinds := [.data, .data, .data, .data, .data, .data, .data], laidTests := true, laidLooks := .later }
def EmitrCodesUptoCardSaid : Prop := Claim7.holds Tryz.pinned (.plain (OpenSpec.upto emitrCodesSpec)) emitrCodesUptoCard

/-- THE SECOND FORM's CARD OF 'alembiclaw12.EmitrTests'. -/
def emitrTestsUptoCard : Claim7 := { stood := { row := emitrTestsUptoRow, standIns := [], harness := (true, "b4cc687bc04cb4b715c00fc33a700684ec5f5b9c6cebef7e0af8dd3cbc5450ea"), looks := false }, kinds := [], alts := [], laidByText := true, laidKinds := [.data, .data, .data, .data, .data, .data, .data], laidTests := true, laidLooks := .later }
def EmitrTestsUptoCardSaid : Prop := Claim7.holds Tryz.pinned (.plain (OpenSpec.upto emitrTestsSpec)) emitrTestsUptoCard

/-- THE SECOND FORM's CARD OF 'alembiclaw12.EmitrRegs'. -/
def emitrRegsUptoCard : Claim7 := { stood := { row := emitrRegsUptoRow, standIns := [], harness := (true, "b4cc687bc04cb4b715c00fc33a700684ec5f5b9c6cebef7e0af8dd3cbc5450ea"), looks := false }, kinds := [], alts := [], laidByText := true, laidKinds := [.data, .data, .data, .data, .data, .data, .data], laidTests := true, laidLooks := .later }
def EmitrRegsUptoCardSaid : Prop := Claim7.holds Tryz.pinned (.plain (OpenSpec.upto emitrRegsSpec)) emitrRegsUptoCard

/-- THE SECOND FORM's CARD OF 'alembiclaw12.EmitrHangs'. -/
def emitrHangsUptoCard : Claim7 := { stood := { row := emitrHangsUptoRow, standIns := [], harness := (true, "b4cc687bc04cb4b715c00fc33a700684ec5f5b9c6cebef7e0af8dd3cbc5450ea"), looks := false }, kinds := [], alts := [], laidByText := true, laidKinds := [.data, .data, .data, .data, .data, .data, .data], laidTests := true, laidLooks := .later }
def EmitrHangsUptoCardSaid : Prop := Claim7.holds Tryz.pinned (.plain (OpenSpec.upto emitrHangsSpec)) emitrHangsUptoCard

/-- THE SECOND FORM's CARD OF 'alembiclaw12.EmitrRuns'. -/
def emitrRunsUptoCard : Claim7 := { stood := { row := emitrRunsUptoRow, standIns := [], harness := (true, "b4cc687bc04cb4b715c00fc33a700684ec5f5b9c6cebef7e0af8dd3cbc5450ea"), looks := false }, kinds := [], alts := [], laidByText := true, laidKinds := [.data, .data, .data, .data, .data, .data, .data], laidTests := true, laidLooks := .later }
def EmitrRunsUptoCardSaid : Prop := Claim7.holds Tryz.pinned (.plain (OpenSpec.upto emitrRunsSpec)) emitrRunsUptoCard
end Rows
end Go.Proofs.YtkbafjceglhjhaaGreatDoor
