/-
  DERIVED. GIVEN WITH THE SEED: THE CARDS: each row of YtkgdhhieomndeaaGreatDoorRows.lean that lists a variable, with what it lists TIED to the program's text (the seventh form; the later family's looks); each row that meets fmt, with fmt's text TOLD by the authors' own Lean function (tested against real Go, not proved from fmt's source: count such statements apart). THE CARD IS WHAT COUNTS. Prove the row's statement (the work); the ties are given (YtkgdhhieomndeaaGreatDoorTie.lean); close each card by the builder's one call (the guide's Derived/Test/ToyasCard.lean, 'card_holds'). Laid BY PROGRAM, IN A SANDBOX (cutbox-door.mjs). By AI agents, Wed Nov 11 2026. No macro, syntax, notation, axiom, sorry.
-/
import Derived.Test.YtkgdhhieomndeaaGreatDoorRows
import GoSem.ClaimSeven
namespace Go.Proofs.YtkgdhhieomndeaaGreatDoor
namespace Rows

/-- THE TIED CARD OF 'alembiclaw11.EmitxTests'. -/
def emitxTestsCard : Claim7 := { stood := { row := emitxTestsRow, standIns := [], harness := (true, "980d55f23bde7777671a3e26df34fc92cb1c958109a52af4e2c8b57992fe7305"), looks := false }, kinds := [], alts := [], laidByText := true, laidKinds := [.data, .data, .data, .data], laidTests := true, laidLooks := .later }
def EmitxTestsCardSaid : Prop := Claim7.holds Tryz.pinned (.plain (OpenSpec.ofChange emitxTestsSpec)) emitxTestsCard

/-- THE TIED CARD OF 'alembiclaw11.EmitxOwn'. -/
def emitxOwnCard : Claim7 := { stood := { row := emitxOwnRow, standIns := [], harness := (true, "980d55f23bde7777671a3e26df34fc92cb1c958109a52af4e2c8b57992fe7305"), looks := false }, kinds := [], alts := [], laidByText := true, laidKinds := [.data, .data, .data, .data], laidTests := true, laidLooks := .later }
def EmitxOwnCardSaid : Prop := Claim7.holds Tryz.pinned (.plain (OpenSpec.ofChange emitxOwnSpec)) emitxOwnCard

/-- THE SECOND FORM's CARD OF 'alembiclaw11.EmitxTests'. -/
def emitxTestsUptoCard : Claim7 := { stood := { row := emitxTestsUptoRow, standIns := [], harness := (true, "980d55f23bde7777671a3e26df34fc92cb1c958109a52af4e2c8b57992fe7305"), looks := false }, kinds := [], alts := [], laidByText := true, laidKinds := [.data, .data, .data, .data], laidTests := true, laidLooks := .later }
def EmitxTestsUptoCardSaid : Prop := Claim7.holds Tryz.pinned (.plain (OpenSpec.upto emitxTestsSpec)) emitxTestsUptoCard

/-- THE SECOND FORM's CARD OF 'alembiclaw11.EmitxOwn'. -/
def emitxOwnUptoCard : Claim7 := { stood := { row := emitxOwnUptoRow, standIns := [], harness := (true, "980d55f23bde7777671a3e26df34fc92cb1c958109a52af4e2c8b57992fe7305"), looks := false }, kinds := [], alts := [], laidByText := true, laidKinds := [.data, .data, .data, .data], laidTests := true, laidLooks := .later }
def EmitxOwnUptoCardSaid : Prop := Claim7.holds Tryz.pinned (.plain (OpenSpec.upto emitxOwnSpec)) emitxOwnUptoCard
end Rows
end Go.Proofs.YtkgdhhieomndeaaGreatDoor
