/-
  No cell of these rows narrows 'for every input' (looked for: loops, veiled, ifaces, maps, wideKeys, modest, calm, conditions, laid).
  DERIVED. THE GIVEN ROWS OF THIS SEAT. 10 by the template 'for every input the law returns true; each argument reads behind the call as it read before'; 0 by the template 'total and deterministic' (their statements: YtjhnfomefcngfaaTotals.lean).
  GIVEN WITH THE SEED: the statements are not yours to turn. If you find one false, say at which input.
  Laid BY PROGRAM, IN A SANDBOX (cutbox-rows.mjs): the forced cells as the released guide's own fill.sh prints them over the translation a98c1973c3c8567b… (all of the seat's roots in one cut). By AI agents, Wed Nov 11 2026. No macro, syntax, notation, axiom, sorry.
-/
import Derived.Test.YtjhnfomefcngfaaChecked
import GoSem.Claim
import GoSem.ClaimJoined
import GoSem.ClaimMapViews
import Derived.JoinedTies
import Derived.KernelRfl
namespace Go.Proofs.Ytjhnfomefcngfaa
/- THE CELL 'sum', in the pinned program and in every row, IS THE sha256 OF THE DUMP (.gsa) THAT YtjhnfomefcngfaaProg.lean LOADS. Nothing in Lean hashes anything: it is a label: what it is worth is what the hold of that sum in a sandbox is worth. -/
noncomputable def Try.pinned : Pinned := { name := "ytjhnfomefcngfaa", sum := "a98c1973c3c8567b3a25489b2c5c34337f7e39dc31a9d6b64481e9919b059da9", checked := Try.checked }
namespace Rows
def none {H : Type} : Left H := { results := [], args := [] }

/-- 'alembiclaw07.ShapeOf': WHATEVER THE INPUT: true; the input reads as it did. -/
def shapeOfSpec : ChangeSpec := { name := "shapeOf", fn := fun _ => fun
  | [d1, d2] => { results := [.lit (.bool true)], args := [d1, d2] }
  | _ => none }
def shapeOfRow : OpenClaim := { program := "ytjhnfomefcngfaa", sum := "a98c1973c3c8567b3a25489b2c5c34337f7e39dc31a9d6b64481e9919b059da9", func := "alembic/alembiclaw07.ShapeOf", spec := "shapeOf", unfollowed := true, recurses := true, apart := false }
def ShapeOfSaid : Prop := shapeOfRow.holds Try.pinned (OpenSpec.ofChange shapeOfSpec)

/-- ITS FALSE NEIGHBOUR: 'it returns false'. Refute it at one input. -/
def shapeOfWrong : ChangeSpec := { name := "shapeOf", fn := fun _ => fun
  | [d1, d2] => { results := [.lit (.bool false)], args := [d1, d2] }
  | _ => none }
def ShapeOfWrongFalsely : Prop := shapeOfRow.holds Try.pinned (OpenSpec.ofChange shapeOfWrong)

/-- 'alembiclaw07.ShapeGoes': WHATEVER THE INPUT: true; the input reads as it did. -/
def shapeGoesSpec : ChangeSpec := { name := "shapeGoes", fn := fun _ => fun
  | [d1, d2] => { results := [.lit (.bool true)], args := [d1, d2] }
  | _ => none }
def shapeGoesRow : OpenClaim := { program := "ytjhnfomefcngfaa", sum := "a98c1973c3c8567b3a25489b2c5c34337f7e39dc31a9d6b64481e9919b059da9", func := "alembic/alembiclaw07.ShapeGoes", spec := "shapeGoes", unfollowed := true, recurses := true, apart := false }
def ShapeGoesSaid : Prop := shapeGoesRow.holds Try.pinned (OpenSpec.ofChange shapeGoesSpec)

/-- ITS FALSE NEIGHBOUR: 'it returns false'. Refute it at one input. -/
def shapeGoesWrong : ChangeSpec := { name := "shapeGoes", fn := fun _ => fun
  | [d1, d2] => { results := [.lit (.bool false)], args := [d1, d2] }
  | _ => none }
def ShapeGoesWrongFalsely : Prop := shapeGoesRow.holds Try.pinned (OpenSpec.ofChange shapeGoesWrong)

/-- 'alembiclaw07.ShapeValues': WHATEVER THE INPUT: true; the input reads as it did. -/
def shapeValuesSpec : ChangeSpec := { name := "shapeValues", fn := fun _ => fun
  | [d1, d2] => { results := [.lit (.bool true)], args := [d1, d2] }
  | _ => none }
def shapeValuesRow : OpenClaim := { program := "ytjhnfomefcngfaa", sum := "a98c1973c3c8567b3a25489b2c5c34337f7e39dc31a9d6b64481e9919b059da9", func := "alembic/alembiclaw07.ShapeValues", spec := "shapeValues", unfollowed := true, recurses := true, apart := false }
def ShapeValuesSaid : Prop := shapeValuesRow.holds Try.pinned (OpenSpec.ofChange shapeValuesSpec)

/-- ITS FALSE NEIGHBOUR: 'it returns false'. Refute it at one input. -/
def shapeValuesWrong : ChangeSpec := { name := "shapeValues", fn := fun _ => fun
  | [d1, d2] => { results := [.lit (.bool false)], args := [d1, d2] }
  | _ => none }
def ShapeValuesWrongFalsely : Prop := shapeValuesRow.holds Try.pinned (OpenSpec.ofChange shapeValuesWrong)

/-- 'alembiclaw07.ShapeTurns': WHATEVER THE INPUT: true; the input reads as it did. -/
def shapeTurnsSpec : ChangeSpec := { name := "shapeTurns", fn := fun _ => fun
  | [d1, d2, d3] => { results := [.lit (.bool true)], args := [d1, d2, d3] }
  | _ => none }
def shapeTurnsRow : OpenClaim := { program := "ytjhnfomefcngfaa", sum := "a98c1973c3c8567b3a25489b2c5c34337f7e39dc31a9d6b64481e9919b059da9", func := "alembic/alembiclaw07.ShapeTurns", spec := "shapeTurns", unfollowed := true, recurses := true, apart := false }
def ShapeTurnsSaid : Prop := shapeTurnsRow.holds Try.pinned (OpenSpec.ofChange shapeTurnsSpec)

/-- ITS FALSE NEIGHBOUR: 'it returns false'. Refute it at one input. -/
def shapeTurnsWrong : ChangeSpec := { name := "shapeTurns", fn := fun _ => fun
  | [d1, d2, d3] => { results := [.lit (.bool false)], args := [d1, d2, d3] }
  | _ => none }
def ShapeTurnsWrongFalsely : Prop := shapeTurnsRow.holds Try.pinned (OpenSpec.ofChange shapeTurnsWrong)

/-- 'alembiclaw07.ShapeThreads': WHATEVER THE INPUT: true; the input reads as it did. -/
def shapeThreadsSpec : ChangeSpec := { name := "shapeThreads", fn := fun _ => fun
  | [d1, d2] => { results := [.lit (.bool true)], args := [d1, d2] }
  | _ => none }
def shapeThreadsRow : OpenClaim := { program := "ytjhnfomefcngfaa", sum := "a98c1973c3c8567b3a25489b2c5c34337f7e39dc31a9d6b64481e9919b059da9", func := "alembic/alembiclaw07.ShapeThreads", spec := "shapeThreads", unfollowed := true, recurses := true, apart := false }
def ShapeThreadsSaid : Prop := shapeThreadsRow.holds Try.pinned (OpenSpec.ofChange shapeThreadsSpec)

/-- ITS FALSE NEIGHBOUR: 'it returns false'. Refute it at one input. -/
def shapeThreadsWrong : ChangeSpec := { name := "shapeThreads", fn := fun _ => fun
  | [d1, d2] => { results := [.lit (.bool false)], args := [d1, d2] }
  | _ => none }
def ShapeThreadsWrongFalsely : Prop := shapeThreadsRow.holds Try.pinned (OpenSpec.ofChange shapeThreadsWrong)

/-- 'alembiclaw07.ShapeOwn': WHATEVER THE INPUT: true; the input reads as it did. -/
def shapeOwnSpec : ChangeSpec := { name := "shapeOwn", fn := fun _ => fun
  | [d1, d2] => { results := [.lit (.bool true)], args := [d1, d2] }
  | _ => none }
def shapeOwnRow : OpenClaim := { program := "ytjhnfomefcngfaa", sum := "a98c1973c3c8567b3a25489b2c5c34337f7e39dc31a9d6b64481e9919b059da9", func := "alembic/alembiclaw07.ShapeOwn", spec := "shapeOwn", unfollowed := true, recurses := true, apart := false }
def ShapeOwnSaid : Prop := shapeOwnRow.holds Try.pinned (OpenSpec.ofChange shapeOwnSpec)

/-- ITS FALSE NEIGHBOUR: 'it returns false'. Refute it at one input. -/
def shapeOwnWrong : ChangeSpec := { name := "shapeOwn", fn := fun _ => fun
  | [d1, d2] => { results := [.lit (.bool false)], args := [d1, d2] }
  | _ => none }
def ShapeOwnWrongFalsely : Prop := shapeOwnRow.holds Try.pinned (OpenSpec.ofChange shapeOwnWrong)

/-- 'alembiclaw07.ShapeChecks': WHATEVER THE INPUT: true; the input reads as it did. -/
def shapeChecksSpec : ChangeSpec := { name := "shapeChecks", fn := fun _ => fun
  | [d1, d2] => { results := [.lit (.bool true)], args := [d1, d2] }
  | _ => none }
def shapeChecksRow : OpenClaim := { program := "ytjhnfomefcngfaa", sum := "a98c1973c3c8567b3a25489b2c5c34337f7e39dc31a9d6b64481e9919b059da9", func := "alembic/alembiclaw07.ShapeChecks", spec := "shapeChecks", unfollowed := true, recurses := true, apart := false }
def ShapeChecksSaid : Prop := shapeChecksRow.holds Try.pinned (OpenSpec.ofChange shapeChecksSpec)

/-- ITS FALSE NEIGHBOUR: 'it returns false'. Refute it at one input. -/
def shapeChecksWrong : ChangeSpec := { name := "shapeChecks", fn := fun _ => fun
  | [d1, d2] => { results := [.lit (.bool false)], args := [d1, d2] }
  | _ => none }
def ShapeChecksWrongFalsely : Prop := shapeChecksRow.holds Try.pinned (OpenSpec.ofChange shapeChecksWrong)

/-- 'alembiclaw11.EmitxGoes': WHATEVER THE INPUT: true; the input reads as it did. -/
def emitxGoesSpec : ChangeSpec := { name := "emitxGoes", fn := fun _ => fun
  | [d] => { results := [.lit (.bool true)], args := [d] }
  | _ => none }
def emitxGoesRow : OpenClaim := { program := "ytjhnfomefcngfaa", sum := "a98c1973c3c8567b3a25489b2c5c34337f7e39dc31a9d6b64481e9919b059da9", func := "alembic/alembiclaw11.EmitxGoes", spec := "emitxGoes", unfollowed := true, recurses := true, apart := false }
def EmitxGoesSaid : Prop := emitxGoesRow.holds Try.pinned (OpenSpec.ofChange emitxGoesSpec)

/-- ITS FALSE NEIGHBOUR: 'it returns false'. Refute it at one input. -/
def emitxGoesWrong : ChangeSpec := { name := "emitxGoes", fn := fun _ => fun
  | [d] => { results := [.lit (.bool false)], args := [d] }
  | _ => none }
def EmitxGoesWrongFalsely : Prop := emitxGoesRow.holds Try.pinned (OpenSpec.ofChange emitxGoesWrong)

/-- 'alembiclaw11.EmitxCodes': WHATEVER THE INPUT: true; the input reads as it did. -/
def emitxCodesSpec : ChangeSpec := { name := "emitxCodes", fn := fun _ => fun
  | [d] => { results := [.lit (.bool true)], args := [d] }
  | _ => none }
def emitxCodesRow : OpenClaim := { program := "ytjhnfomefcngfaa", sum := "a98c1973c3c8567b3a25489b2c5c34337f7e39dc31a9d6b64481e9919b059da9", func := "alembic/alembiclaw11.EmitxCodes", spec := "emitxCodes", unfollowed := true, recurses := true, apart := false }
def EmitxCodesSaid : Prop := emitxCodesRow.holds Try.pinned (OpenSpec.ofChange emitxCodesSpec)

/-- ITS FALSE NEIGHBOUR: 'it returns false'. Refute it at one input. -/
def emitxCodesWrong : ChangeSpec := { name := "emitxCodes", fn := fun _ => fun
  | [d] => { results := [.lit (.bool false)], args := [d] }
  | _ => none }
def EmitxCodesWrongFalsely : Prop := emitxCodesRow.holds Try.pinned (OpenSpec.ofChange emitxCodesWrong)

/-- 'alembiclaw11.EmitxRegs': WHATEVER THE INPUT: true; the input reads as it did. -/
def emitxRegsSpec : ChangeSpec := { name := "emitxRegs", fn := fun _ => fun
  | [d] => { results := [.lit (.bool true)], args := [d] }
  | _ => none }
def emitxRegsRow : OpenClaim := { program := "ytjhnfomefcngfaa", sum := "a98c1973c3c8567b3a25489b2c5c34337f7e39dc31a9d6b64481e9919b059da9", func := "alembic/alembiclaw11.EmitxRegs", spec := "emitxRegs", unfollowed := true, recurses := true, apart := false }
def EmitxRegsSaid : Prop := emitxRegsRow.holds Try.pinned (OpenSpec.ofChange emitxRegsSpec)

/-- ITS FALSE NEIGHBOUR: 'it returns false'. Refute it at one input. -/
def emitxRegsWrong : ChangeSpec := { name := "emitxRegs", fn := fun _ => fun
  | [d] => { results := [.lit (.bool false)], args := [d] }
  | _ => none }
def EmitxRegsWrongFalsely : Prop := emitxRegsRow.holds Try.pinned (OpenSpec.ofChange emitxRegsWrong)

/- THE SECOND FORM. 'bulk': how many values and letters a reading holds, each counted each time it is reached (what is shared counts as often as it is met; a slice's spare places count too). A statement '..UptoSaid' is the law's where the arguments, and the package variables that the reading takes, are together of bulk at most 1048576: NARROWER than '..Said'. Prove '..Said' where nothing that the law and all that it calls make is longer than what came in: it says more and counts as full. Else prove '..UptoSaid'. A law counts once. -/
mutual
def uptoBulk {H : Type} : DataW H → Nat
  | .lit (.string bytes) => bytes.length + 1
  | .lit _ => 1
  | .nil => 1
  | .ptr d => uptoBulk d + 1
  | .slice elems spare => uptoBulkAll elems + uptoBulkAll spare + 1
  | .agg parts => uptoBulkAll parts + 1
  | .iface _ d => uptoBulk d + 1
  | .map entries => uptoBulkEntries entries + 1
  | .held _ => 1
def uptoBulkAll {H : Type} : List (DataW H) → Nat
  | [] => 0
  | d :: r => uptoBulk d + uptoBulkAll r
def uptoBulkEntries {H : Type} : List (Lit × DataW H) → Nat
  | [] => 0
  | x :: r => uptoBulkEntry x + uptoBulkEntries r
def uptoBulkEntry {H : Type} : Lit × DataW H → Nat
  | (.string bytes, d) => bytes.length + uptoBulk d + 1
  | (_, d) => uptoBulk d + 1
 end
def uptoSmall : (H : Type) → List (DataW H) → Bool := fun _ ds => decide (uptoBulkAll ds ≤ 1048576)
def OpenSpec.upto (s : _root_.Go.ChangeSpec) : _root_.Go.OpenSpec := { _root_.Go.OpenSpec.ofChange s with cond := some uptoSmall }

/-- 'alembiclaw07.ShapeOf', WHERE WHAT IT READS IS OF BULK AT MOST 1048576: true; the input reads as it did. -/
def shapeOfUptoRow : OpenClaim := { program := "ytjhnfomefcngfaa", sum := "a98c1973c3c8567b3a25489b2c5c34337f7e39dc31a9d6b64481e9919b059da9", func := "alembic/alembiclaw07.ShapeOf", spec := "shapeOf", unfollowed := true, recurses := true, apart := false, narrowed := true }
def ShapeOfUptoSaid : Prop := shapeOfUptoRow.holds Try.pinned (OpenSpec.upto shapeOfSpec)

/-- 'alembiclaw07.ShapeGoes', WHERE WHAT IT READS IS OF BULK AT MOST 1048576: true; the input reads as it did. -/
def shapeGoesUptoRow : OpenClaim := { program := "ytjhnfomefcngfaa", sum := "a98c1973c3c8567b3a25489b2c5c34337f7e39dc31a9d6b64481e9919b059da9", func := "alembic/alembiclaw07.ShapeGoes", spec := "shapeGoes", unfollowed := true, recurses := true, apart := false, narrowed := true }
def ShapeGoesUptoSaid : Prop := shapeGoesUptoRow.holds Try.pinned (OpenSpec.upto shapeGoesSpec)

/-- 'alembiclaw07.ShapeValues', WHERE WHAT IT READS IS OF BULK AT MOST 1048576: true; the input reads as it did. -/
def shapeValuesUptoRow : OpenClaim := { program := "ytjhnfomefcngfaa", sum := "a98c1973c3c8567b3a25489b2c5c34337f7e39dc31a9d6b64481e9919b059da9", func := "alembic/alembiclaw07.ShapeValues", spec := "shapeValues", unfollowed := true, recurses := true, apart := false, narrowed := true }
def ShapeValuesUptoSaid : Prop := shapeValuesUptoRow.holds Try.pinned (OpenSpec.upto shapeValuesSpec)

/-- 'alembiclaw07.ShapeTurns', WHERE WHAT IT READS IS OF BULK AT MOST 1048576: true; the input reads as it did. -/
def shapeTurnsUptoRow : OpenClaim := { program := "ytjhnfomefcngfaa", sum := "a98c1973c3c8567b3a25489b2c5c34337f7e39dc31a9d6b64481e9919b059da9", func := "alembic/alembiclaw07.ShapeTurns", spec := "shapeTurns", unfollowed := true, recurses := true, apart := false, narrowed := true }
def ShapeTurnsUptoSaid : Prop := shapeTurnsUptoRow.holds Try.pinned (OpenSpec.upto shapeTurnsSpec)

/-- 'alembiclaw07.ShapeThreads', WHERE WHAT IT READS IS OF BULK AT MOST 1048576: true; the input reads as it did. -/
def shapeThreadsUptoRow : OpenClaim := { program := "ytjhnfomefcngfaa", sum := "a98c1973c3c8567b3a25489b2c5c34337f7e39dc31a9d6b64481e9919b059da9", func := "alembic/alembiclaw07.ShapeThreads", spec := "shapeThreads", unfollowed := true, recurses := true, apart := false, narrowed := true }
def ShapeThreadsUptoSaid : Prop := shapeThreadsUptoRow.holds Try.pinned (OpenSpec.upto shapeThreadsSpec)

/-- 'alembiclaw07.ShapeOwn', WHERE WHAT IT READS IS OF BULK AT MOST 1048576: true; the input reads as it did. -/
def shapeOwnUptoRow : OpenClaim := { program := "ytjhnfomefcngfaa", sum := "a98c1973c3c8567b3a25489b2c5c34337f7e39dc31a9d6b64481e9919b059da9", func := "alembic/alembiclaw07.ShapeOwn", spec := "shapeOwn", unfollowed := true, recurses := true, apart := false, narrowed := true }
def ShapeOwnUptoSaid : Prop := shapeOwnUptoRow.holds Try.pinned (OpenSpec.upto shapeOwnSpec)

/-- 'alembiclaw07.ShapeChecks', WHERE WHAT IT READS IS OF BULK AT MOST 1048576: true; the input reads as it did. -/
def shapeChecksUptoRow : OpenClaim := { program := "ytjhnfomefcngfaa", sum := "a98c1973c3c8567b3a25489b2c5c34337f7e39dc31a9d6b64481e9919b059da9", func := "alembic/alembiclaw07.ShapeChecks", spec := "shapeChecks", unfollowed := true, recurses := true, apart := false, narrowed := true }
def ShapeChecksUptoSaid : Prop := shapeChecksUptoRow.holds Try.pinned (OpenSpec.upto shapeChecksSpec)

/-- 'alembiclaw11.EmitxGoes', WHERE WHAT IT READS IS OF BULK AT MOST 1048576: true; the input reads as it did. -/
def emitxGoesUptoRow : OpenClaim := { program := "ytjhnfomefcngfaa", sum := "a98c1973c3c8567b3a25489b2c5c34337f7e39dc31a9d6b64481e9919b059da9", func := "alembic/alembiclaw11.EmitxGoes", spec := "emitxGoes", unfollowed := true, recurses := true, apart := false, narrowed := true }
def EmitxGoesUptoSaid : Prop := emitxGoesUptoRow.holds Try.pinned (OpenSpec.upto emitxGoesSpec)

/-- 'alembiclaw11.EmitxCodes', WHERE WHAT IT READS IS OF BULK AT MOST 1048576: true; the input reads as it did. -/
def emitxCodesUptoRow : OpenClaim := { program := "ytjhnfomefcngfaa", sum := "a98c1973c3c8567b3a25489b2c5c34337f7e39dc31a9d6b64481e9919b059da9", func := "alembic/alembiclaw11.EmitxCodes", spec := "emitxCodes", unfollowed := true, recurses := true, apart := false, narrowed := true }
def EmitxCodesUptoSaid : Prop := emitxCodesUptoRow.holds Try.pinned (OpenSpec.upto emitxCodesSpec)

/-- 'alembiclaw11.EmitxRegs', WHERE WHAT IT READS IS OF BULK AT MOST 1048576: true; the input reads as it did. -/
def emitxRegsUptoRow : OpenClaim := { program := "ytjhnfomefcngfaa", sum := "a98c1973c3c8567b3a25489b2c5c34337f7e39dc31a9d6b64481e9919b059da9", func := "alembic/alembiclaw11.EmitxRegs", spec := "emitxRegs", unfollowed := true, recurses := true, apart := false, narrowed := true }
def EmitxRegsUptoSaid : Prop := emitxRegsUptoRow.holds Try.pinned (OpenSpec.upto emitxRegsSpec)

end Rows
end Go.Proofs.Ytjhnfomefcngfaa
