/-
  DERIVED. GIVEN WITH THE SEED: THE CARDS: each row of YthlojajaenfidaaGreatDoorRows.lean that lists a variable, with what it lists TIED to the program's text (the seventh form; the later family's looks); each row that meets fmt, with fmt's text TOLD by the authors' own Lean function (tested against real Go, not proved from fmt's source: count such statements apart). THE CARD IS WHAT COUNTS. Prove the row's statement (the work); the ties are given (YthlojajaenfidaaGreatDoorTie.lean); close each card by the builder's one call (the guide's Derived/Test/ToyasCard.lean, 'card_holds'). Laid BY PROGRAM, IN A SANDBOX (cutbox-door.mjs). By AI agents, Wed Nov 11 2026. No macro, syntax, notation, axiom, sorry.
-/
import Derived.Test.YthlojajaenfidaaGreatDoorRows
import GoSem.ClaimSeven
namespace Go.Proofs.YthlojajaenfidaaGreatDoor
namespace Rows

/-- THE TIED CARD OF 'alembiclaw11.EmitxTurns'. -/
def emitxTurnsCard : Claim7 := { stood := { row := emitxTurnsRow, standIns := [], harness := (true, "40a4e0fe327d007ad2792f4290243311805b36da61d69ad18c66f645410e6d5a"), looks := false }, kinds := [], alts := [], laidByText := true, laidKinds := [.data, .data, .data, .data], laidTests := true, laidLooks := .later }
def EmitxTurnsCardSaid : Prop := Claim7.holds Tryz.pinned (.plain (OpenSpec.ofChange emitxTurnsSpec)) emitxTurnsCard

/-- THE SECOND FORM's CARD OF 'alembiclaw11.EmitxTurns'. -/
def emitxTurnsUptoCard : Claim7 := { stood := { row := emitxTurnsUptoRow, standIns := [], harness := (true, "40a4e0fe327d007ad2792f4290243311805b36da61d69ad18c66f645410e6d5a"), looks := false }, kinds := [], alts := [], laidByText := true, laidKinds := [.data, .data, .data, .data], laidTests := true, laidLooks := .later }
def EmitxTurnsUptoCardSaid : Prop := Claim7.holds Tryz.pinned (.plain (OpenSpec.upto emitxTurnsSpec)) emitxTurnsUptoCard
end Rows
end Go.Proofs.YthlojajaenfidaaGreatDoor
