/-
  DERIVED. GIVEN WITH THE SEED: THE CARDS: each row of YtkcbdemfmjciiaaDoorRows.lean that lists a variable, with what it lists TIED to the program's text (the seventh form; the later family's looks); each row that meets fmt, with fmt's text TOLD by the authors' own Lean function (tested against real Go, not proved from fmt's source: count such statements apart). THE CARD IS WHAT COUNTS. Prove the row's statement (the work); the ties are given (YtkcbdemfmjciiaaDoorTie.lean); close each card by the builder's one call (the guide's Derived/Test/ToyasCard.lean, 'card_holds'). Laid BY PROGRAM, IN A SANDBOX (cutbox-door.mjs). By AI agents, Wed Nov 11 2026. No macro, syntax, notation, axiom, sorry.
-/
import Derived.Test.YtkcbdemfmjciiaaDoorRows
import GoSem.ClaimSeven
namespace Go.Proofs.YtkcbdemfmjciiaaDoor
namespace Rows

/-- THE TIED CARD OF 'alembiclaw27.FamilyOf'. -/
def familyOfCard : Claim7 := { stood := { row := familyOfRow, standIns := [], harness := (true, "d9214addc4b957dfe05c8f87739dd42eb725b3bdd5009c3e90a6eb079d65617c"), looks := false }, kinds := [], alts := [], laidByText := true, laidKinds := [.data, .data, .data, .data, .data], laidTests := true, laidLooks := .later }
def FamilyOfCardSaid : Prop := Claim7.holds Tryd.pinned (.plain (OpenSpec.ofChange familyOfSpec)) familyOfCard

/-- THE TIED CARD OF 'alembiclaw27.FamilyBares'. -/
def familyBaresCard : Claim7 := { stood := { row := familyBaresRow, standIns := [], harness := (true, "d9214addc4b957dfe05c8f87739dd42eb725b3bdd5009c3e90a6eb079d65617c"), looks := false }, kinds := [], alts := [], laidByText := true, laidKinds := [.data, .data, .data, .data, .data], laidTests := true, laidLooks := .later }
def FamilyBaresCardSaid : Prop := Claim7.holds Tryd.pinned (.plain (OpenSpec.ofChange familyBaresSpec)) familyBaresCard

/-- THE TIED CARD OF 'alembiclaw27.FamilyKnown'. -/
def familyKnownCard : Claim7 := { stood := { row := familyKnownRow, standIns := [], harness := (true, "d9214addc4b957dfe05c8f87739dd42eb725b3bdd5009c3e90a6eb079d65617c"), looks := false }, kinds := [], alts := [], laidByText := true, laidKinds := [.data, .data, .data, .data, .data], laidTests := true, laidLooks := .later }
def FamilyKnownCardSaid : Prop := Claim7.holds Tryd.pinned (.plain (OpenSpec.ofChange familyKnownSpec)) familyKnownCard

/-- THE TIED CARD OF 'alembiclaw27.FamilyOwn'. -/
def familyOwnCard : Claim7 := { stood := { row := familyOwnRow, standIns := [], harness := (true, "d9214addc4b957dfe05c8f87739dd42eb725b3bdd5009c3e90a6eb079d65617c"), looks := false }, kinds := [], alts := [], laidByText := true, laidKinds := [.data, .data, .data, .data, .data], laidTests := true, laidLooks := .later }
def FamilyOwnCardSaid : Prop := Claim7.holds Tryd.pinned (.plain (OpenSpec.ofChange familyOwnSpec)) familyOwnCard

/-- THE TIED CARD OF 'alembiclaw27.FamilyApart'. -/
def familyApartCard : Claim7 := { stood := { row := familyApartRow, standIns := [], harness := (true, "d9214addc4b957dfe05c8f87739dd42eb725b3bdd5009c3e90a6eb079d65617c"), looks := false }, kinds := [], alts := [], laidByText := true, laidKinds := [.data, .data, .data, .data, .data, .data, .pinned], laidTests := true, laidLooks := .later }
def FamilyApartCardSaid : Prop := Claim7.holds Tryd.pinned (.plain (OpenSpec.ofChange familyApartSpec)) familyApartCard

/-- THE SECOND FORM's CARD OF 'alembiclaw27.FamilyOf'. -/
def familyOfUptoCard : Claim7 := { stood := { row := familyOfUptoRow, standIns := [], harness := (true, "d9214addc4b957dfe05c8f87739dd42eb725b3bdd5009c3e90a6eb079d65617c"), looks := false }, kinds := [], alts := [], laidByText := true, laidKinds := [.data, .data, .data, .data, .data], laidTests := true, laidLooks := .later }
def FamilyOfUptoCardSaid : Prop := Claim7.holds Tryd.pinned (.plain (OpenSpec.upto familyOfSpec)) familyOfUptoCard

/-- THE SECOND FORM's CARD OF 'alembiclaw27.FamilyBares'. -/
def familyBaresUptoCard : Claim7 := { stood := { row := familyBaresUptoRow, standIns := [], harness := (true, "d9214addc4b957dfe05c8f87739dd42eb725b3bdd5009c3e90a6eb079d65617c"), looks := false }, kinds := [], alts := [], laidByText := true, laidKinds := [.data, .data, .data, .data, .data], laidTests := true, laidLooks := .later }
def FamilyBaresUptoCardSaid : Prop := Claim7.holds Tryd.pinned (.plain (OpenSpec.upto familyBaresSpec)) familyBaresUptoCard

/-- THE SECOND FORM's CARD OF 'alembiclaw27.FamilyKnown'. -/
def familyKnownUptoCard : Claim7 := { stood := { row := familyKnownUptoRow, standIns := [], harness := (true, "d9214addc4b957dfe05c8f87739dd42eb725b3bdd5009c3e90a6eb079d65617c"), looks := false }, kinds := [], alts := [], laidByText := true, laidKinds := [.data, .data, .data, .data, .data], laidTests := true, laidLooks := .later }
def FamilyKnownUptoCardSaid : Prop := Claim7.holds Tryd.pinned (.plain (OpenSpec.upto familyKnownSpec)) familyKnownUptoCard

/-- THE SECOND FORM's CARD OF 'alembiclaw27.FamilyOwn'. -/
def familyOwnUptoCard : Claim7 := { stood := { row := familyOwnUptoRow, standIns := [], harness := (true, "d9214addc4b957dfe05c8f87739dd42eb725b3bdd5009c3e90a6eb079d65617c"), looks := false }, kinds := [], alts := [], laidByText := true, laidKinds := [.data, .data, .data, .data, .data], laidTests := true, laidLooks := .later }
def FamilyOwnUptoCardSaid : Prop := Claim7.holds Tryd.pinned (.plain (OpenSpec.upto familyOwnSpec)) familyOwnUptoCard

/-- THE SECOND FORM's CARD OF 'alembiclaw27.FamilyApart'. -/
def familyApartUptoCard : Claim7 := { stood := { row := familyApartUptoRow, standIns := [], harness := (true, "d9214addc4b957dfe05c8f87739dd42eb725b3bdd5009c3e90a6eb079d65617c"), looks := false }, kinds := [], alts := [], laidByText := true, laidKinds := [.data, .data, .data, .data, .data, .data, .pinned], laidTests := true, laidLooks := .later }
def FamilyApartUptoCardSaid : Prop := Claim7.holds Tryd.pinned (.plain (OpenSpec.upto familyApartSpec)) familyApartUptoCard
end Rows
end Go.Proofs.YtkcbdemfmjciiaaDoor
