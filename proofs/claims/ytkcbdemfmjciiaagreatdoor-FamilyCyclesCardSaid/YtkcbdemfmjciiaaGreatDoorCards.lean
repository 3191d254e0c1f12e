/-
  DERIVED. GIVEN WITH THE SEED: THE CARDS: each row of YtkcbdemfmjciiaaGreatDoorRows.lean that lists a variable, with what it lists TIED to the program's text (the seventh form; the later family's looks); each row that meets fmt, with fmt's text TOLD by the authors' own Lean function (tested against real Go, not proved from fmt's source: count such statements apart). THE CARD IS WHAT COUNTS. Prove the row's statement (the work); the ties are given (YtkcbdemfmjciiaaGreatDoorTie.lean); close each card by the builder's one call (the guide's Derived/Test/ToyasCard.lean, 'card_holds'). Laid BY PROGRAM, IN A SANDBOX (cutbox-door.mjs). By AI agents, Wed Nov 11 2026. No macro, syntax, notation, axiom, sorry.
-/
import Derived.Test.YtkcbdemfmjciiaaGreatDoorRows
import GoSem.ClaimSeven
namespace Go.Proofs.YtkcbdemfmjciiaaGreatDoor
namespace Rows

/-- THE TIED CARD OF 'alembiclaw27.FamilyCycles'. -/
def familyCyclesCard : Claim7 := { stood := { row := familyCyclesRow, standIns := [], harness := (true, "9411e0c214bcd44023a291476c917e8573f92b62f13a1c9ba90ee623a1b29bd3"), looks := false }, kinds := [], alts := [], laidByText := true, laidKinds := [.data, .data, .data, .data, .data, .data, .pinned], laidTests := true, laidLooks := .later }
def FamilyCyclesCardSaid : Prop := Claim7.holds Tryz.pinned (.plain (OpenSpec.ofChange familyCyclesSpec)) familyCyclesCard

/-- THE SECOND FORM's CARD OF 'alembiclaw27.FamilyCycles'. -/
def familyCyclesUptoCard : Claim7 := { stood := { row := familyCyclesUptoRow, standIns := [], harness := (true, "9411e0c214bcd44023a291476c917e8573f92b62f13a1c9ba90ee623a1b29bd3"), looks := false }, kinds := [], alts := [], laidByText := true, laidKinds := [.data, .data, .data, .data, .data, .data, .pinned], laidTests := true, laidLooks := .later }
def FamilyCyclesUptoCardSaid : Prop := Claim7.holds Tryz.pinned (.plain (OpenSpec.upto familyCyclesSpec)) familyCyclesUptoCard
end Rows
end Go.Proofs.YtkcbdemfmjciiaaGreatDoor
