/-
  No cell of these rows narrows 'for every input' (looked for: loops, veiled, ifaces, maps, wideKeys, modest, calm, conditions, laid).
  DERIVED. THE GIVEN ROWS OF THIS SEAT. 8 by the template 'for every input the law returns true; each argument reads behind the call as it read before'; 0 by the template 'total and deterministic' (their statements: YtdmjcpindopjdaaTotals.lean).
  GIVEN WITH THE SEED: the statements are not yours to turn. If you find one false, say at which input.
  Laid BY PROGRAM, IN A SANDBOX (cutbox-rows.mjs): the forced cells as the released guide's own fill.sh prints them over the translation 3751a66e9b168a5d… (all of the seat's roots in one cut). By AI agents, Wed Nov 11 2026. No macro, syntax, notation, axiom, sorry.
-/
import Derived.Test.YtdmjcpindopjdaaChecked
import GoSem.Claim
import GoSem.ClaimJoined
import GoSem.ClaimMapViews
import Derived.JoinedTies
import Derived.KernelRfl
namespace Go.Proofs.Ytdmjcpindopjdaa
/- THE CELL 'sum', in the pinned program and in every row, IS THE sha256 OF THE DUMP (.gsa) THAT YtdmjcpindopjdaaProg.lean LOADS. Nothing in Lean hashes anything: it is a label: what it is worth is what the hold of that sum in a sandbox is worth. -/
noncomputable def Try.pinned : Pinned := { name := "ytdmjcpindopjdaa", sum := "3751a66e9b168a5dc79b7a0848585ecd2d28248661d4137404ea5d64102faff9", checked := Try.checked }
namespace Rows
def none {H : Type} : Left H := { results := [], args := [] }

/-- 'alembiclaw05.CountMatrix': WHATEVER THE INPUT: true; the input reads as it did. -/
def countMatrixSpec : ChangeSpec := { name := "countMatrix", fn := fun _ => fun
  | [d] => { results := [.lit (.bool true)], args := [d] }
  | _ => none }
def countMatrixRow : OpenClaim := { program := "ytdmjcpindopjdaa", sum := "3751a66e9b168a5dc79b7a0848585ecd2d28248661d4137404ea5d64102faff9", func := "alembic/alembiclaw05.CountMatrix", spec := "countMatrix", inPlace := ["math/bits.Add64"], named := ["math/bits.divideError", "math/bits.overflowError"], apart := false }
def CountMatrixSaid : Prop := countMatrixRow.holds Try.pinned (OpenSpec.ofChange countMatrixSpec)

/-- ITS FALSE NEIGHBOUR: 'it returns false'. Refute it at one input. -/
def countMatrixWrong : ChangeSpec := { name := "countMatrix", fn := fun _ => fun
  | [d] => { results := [.lit (.bool false)], args := [d] }
  | _ => none }
def CountMatrixWrongFalsely : Prop := countMatrixRow.holds Try.pinned (OpenSpec.ofChange countMatrixWrong)

/-- 'alembiclaw05.CountTried': WHATEVER THE INPUT: true; the input reads as it did. -/
def countTriedSpec : ChangeSpec := { name := "countTried", fn := fun _ => fun
  | [d1, d2] => { results := [.lit (.bool true)], args := [d1, d2] }
  | _ => none }
def countTriedRow : OpenClaim := { program := "ytdmjcpindopjdaa", sum := "3751a66e9b168a5dc79b7a0848585ecd2d28248661d4137404ea5d64102faff9", func := "alembic/alembiclaw05.CountTried", spec := "countTried", inPlace := ["math/bits.Add64"], named := ["math/bits.divideError", "math/bits.overflowError"], apart := false }
def CountTriedSaid : Prop := countTriedRow.holds Try.pinned (OpenSpec.ofChange countTriedSpec)

/-- ITS FALSE NEIGHBOUR: 'it returns false'. Refute it at one input. -/
def countTriedWrong : ChangeSpec := { name := "countTried", fn := fun _ => fun
  | [d1, d2] => { results := [.lit (.bool false)], args := [d1, d2] }
  | _ => none }
def CountTriedWrongFalsely : Prop := countTriedRow.holds Try.pinned (OpenSpec.ofChange countTriedWrong)

/-- 'alembiclaw05.CountUpto': WHATEVER THE INPUT: true; the input reads as it did. -/
def countUptoSpec : ChangeSpec := { name := "countUpto", fn := fun _ => fun
  | [d1, d2] => { results := [.lit (.bool true)], args := [d1, d2] }
  | _ => none }
def countUptoRow : OpenClaim := { program := "ytdmjcpindopjdaa", sum := "3751a66e9b168a5dc79b7a0848585ecd2d28248661d4137404ea5d64102faff9", func := "alembic/alembiclaw05.CountUpto", spec := "countUpto", inPlace := ["math/bits.Add64"], recurses := true, named := ["math/bits.divideError", "math/bits.overflowError"], apart := false }
def CountUptoSaid : Prop := countUptoRow.holds Try.pinned (OpenSpec.ofChange countUptoSpec)

/-- ITS FALSE NEIGHBOUR: 'it returns false'. Refute it at one input. -/
def countUptoWrong : ChangeSpec := { name := "countUpto", fn := fun _ => fun
  | [d1, d2] => { results := [.lit (.bool false)], args := [d1, d2] }
  | _ => none }
def CountUptoWrongFalsely : Prop := countUptoRow.holds Try.pinned (OpenSpec.ofChange countUptoWrong)

/-- 'alembiclaw05.CountSame': WHATEVER THE INPUT: true; the input reads as it did. -/
def countSameSpec : ChangeSpec := { name := "countSame", fn := fun _ => fun
  | [d1, d2, d3] => { results := [.lit (.bool true)], args := [d1, d2, d3] }
  | _ => none }
def countSameRow : OpenClaim := { program := "ytdmjcpindopjdaa", sum := "3751a66e9b168a5dc79b7a0848585ecd2d28248661d4137404ea5d64102faff9", func := "alembic/alembiclaw05.CountSame", spec := "countSame", inPlace := ["math/bits.Add64"], named := ["math/bits.divideError", "math/bits.overflowError"], apart := false }
def CountSameSaid : Prop := countSameRow.holds Try.pinned (OpenSpec.ofChange countSameSpec)

/-- ITS FALSE NEIGHBOUR: 'it returns false'. Refute it at one input. -/
def countSameWrong : ChangeSpec := { name := "countSame", fn := fun _ => fun
  | [d1, d2, d3] => { results := [.lit (.bool false)], args := [d1, d2, d3] }
  | _ => none }
def CountSameWrongFalsely : Prop := countSameRow.holds Try.pinned (OpenSpec.ofChange countSameWrong)

/-- 'alembiclaw05.CountNumbers': WHATEVER THE INPUT: true; the input reads as it did. -/
def countNumbersSpec : ChangeSpec := { name := "countNumbers", fn := fun _ => fun
  | [d] => { results := [.lit (.bool true)], args := [d] }
  | _ => none }
def countNumbersRow : OpenClaim := { program := "ytdmjcpindopjdaa", sum := "3751a66e9b168a5dc79b7a0848585ecd2d28248661d4137404ea5d64102faff9", func := "alembic/alembiclaw05.CountNumbers", spec := "countNumbers", inPlace := ["math/bits.Add64"], named := ["math/bits.divideError", "math/bits.overflowError"], apart := false }
def CountNumbersSaid : Prop := countNumbersRow.holds Try.pinned (OpenSpec.ofChange countNumbersSpec)

/-- ITS FALSE NEIGHBOUR: 'it returns false'. Refute it at one input. -/
def countNumbersWrong : ChangeSpec := { name := "countNumbers", fn := fun _ => fun
  | [d] => { results := [.lit (.bool false)], args := [d] }
  | _ => none }
def CountNumbersWrongFalsely : Prop := countNumbersRow.holds Try.pinned (OpenSpec.ofChange countNumbersWrong)

/-- 'alembiclaw05.CountBurnside': WHATEVER THE INPUT: true; the input reads as it did. -/
def countBurnsideSpec : ChangeSpec := { name := "countBurnside", fn := fun _ => fun
  | [d1, d2] => { results := [.lit (.bool true)], args := [d1, d2] }
  | _ => none }
def countBurnsideRow : OpenClaim := { program := "ytdmjcpindopjdaa", sum := "3751a66e9b168a5dc79b7a0848585ecd2d28248661d4137404ea5d64102faff9", func := "alembic/alembiclaw05.CountBurnside", spec := "countBurnside", inPlace := ["math/bits.Add64"], recurses := true, named := ["math/bits.divideError", "math/bits.overflowError"], apart := false }
def CountBurnsideSaid : Prop := countBurnsideRow.holds Try.pinned (OpenSpec.ofChange countBurnsideSpec)

/-- ITS FALSE NEIGHBOUR: 'it returns false'. Refute it at one input. -/
def countBurnsideWrong : ChangeSpec := { name := "countBurnside", fn := fun _ => fun
  | [d1, d2] => { results := [.lit (.bool false)], args := [d1, d2] }
  | _ => none }
def CountBurnsideWrongFalsely : Prop := countBurnsideRow.holds Try.pinned (OpenSpec.ofChange countBurnsideWrong)

/-- 'alembiclaw05.CountWalks': WHATEVER THE INPUT: true; the input reads as it did. -/
def countWalksSpec : ChangeSpec := { name := "countWalks", fn := fun _ => fun
  | [d1, d2] => { results := [.lit (.bool true)], args := [d1, d2] }
  | _ => none }
def countWalksRow : OpenClaim := { program := "ytdmjcpindopjdaa", sum := "3751a66e9b168a5dc79b7a0848585ecd2d28248661d4137404ea5d64102faff9", func := "alembic/alembiclaw05.CountWalks", spec := "countWalks", inPlace := ["math/bits.Add64"], recurses := true, named := ["math/bits.divideError", "math/bits.overflowError"], apart := false }
def CountWalksSaid : Prop := countWalksRow.holds Try.pinned (OpenSpec.ofChange countWalksSpec)

/-- ITS FALSE NEIGHBOUR: 'it returns false'. Refute it at one input. -/
def countWalksWrong : ChangeSpec := { name := "countWalks", fn := fun _ => fun
  | [d1, d2] => { results := [.lit (.bool false)], args := [d1, d2] }
  | _ => none }
def CountWalksWrongFalsely : Prop := countWalksRow.holds Try.pinned (OpenSpec.ofChange countWalksWrong)

/-- 'alembiclaw05.CountWords': WHATEVER THE INPUT: true; the input reads as it did. -/
def countWordsSpec : ChangeSpec := { name := "countWords", fn := fun _ => fun
  | [d1, d2] => { results := [.lit (.bool true)], args := [d1, d2] }
  | _ => none }
def countWordsRow : OpenClaim := { program := "ytdmjcpindopjdaa", sum := "3751a66e9b168a5dc79b7a0848585ecd2d28248661d4137404ea5d64102faff9", func := "alembic/alembiclaw05.CountWords", spec := "countWords", inPlace := ["math/bits.Add64"], recurses := true, named := ["math/bits.divideError", "math/bits.overflowError"], apart := false }
def CountWordsSaid : Prop := countWordsRow.holds Try.pinned (OpenSpec.ofChange countWordsSpec)

/-- ITS FALSE NEIGHBOUR: 'it returns false'. Refute it at one input. -/
def countWordsWrong : ChangeSpec := { name := "countWords", fn := fun _ => fun
  | [d1, d2] => { results := [.lit (.bool false)], args := [d1, d2] }
  | _ => none }
def CountWordsWrongFalsely : Prop := countWordsRow.holds Try.pinned (OpenSpec.ofChange countWordsWrong)

/- THE SECOND FORM. 'bulk': how many values and letters a reading holds, each counted each time it is reached (what is shared counts as often as it is met; a slice's spare places count too). A statement '..UptoSaid' is the law's where the arguments, and the package variables that the reading takes, are together of bulk at most 1048576: NARROWER than '..Said'. Prove '..Said' where nothing that the law and all that it calls make is longer than what came in: it says more and counts as full. Else prove '..UptoSaid'. A law counts once. -/
mutual
def uptoBulk {H : Type} : DataW H → Nat
  | .lit (.string bytes) => bytes.length + 1
  | .lit _ => 1
  | .nil => 1
  | .ptr d => uptoBulk d + 1
  | .slice elems spare => uptoBulkAll elems + uptoBulkAll spare + 1
  | .agg parts => uptoBulkAll parts + 1
  | .iface _ d => uptoBulk d + 1
  | .map entries => uptoBulkEntries entries + 1
  | .held _ => 1
def uptoBulkAll {H : Type} : List (DataW H) → Nat
  | [] => 0
  | d :: r => uptoBulk d + uptoBulkAll r
def uptoBulkEntries {H : Type} : List (Lit × DataW H) → Nat
  | [] => 0
  | x :: r => uptoBulkEntry x + uptoBulkEntries r
def uptoBulkEntry {H : Type} : Lit × DataW H → Nat
  | (.string bytes, d) => bytes.length + uptoBulk d + 1
  | (_, d) => uptoBulk d + 1
 end
def uptoSmall : (H : Type) → List (DataW H) → Bool := fun _ ds => decide (uptoBulkAll ds ≤ 1048576)
def OpenSpec.upto (s : _root_.Go.ChangeSpec) : _root_.Go.OpenSpec := { _root_.Go.OpenSpec.ofChange s with cond := some uptoSmall }

/-- 'alembiclaw05.CountMatrix', WHERE WHAT IT READS IS OF BULK AT MOST 1048576: true; the input reads as it did. -/
def countMatrixUptoRow : OpenClaim := { program := "ytdmjcpindopjdaa", sum := "3751a66e9b168a5dc79b7a0848585ecd2d28248661d4137404ea5d64102faff9", func := "alembic/alembiclaw05.CountMatrix", spec := "countMatrix", inPlace := ["math/bits.Add64"], named := ["math/bits.divideError", "math/bits.overflowError"], apart := false, narrowed := true }
def CountMatrixUptoSaid : Prop := countMatrixUptoRow.holds Try.pinned (OpenSpec.upto countMatrixSpec)

/-- 'alembiclaw05.CountTried', WHERE WHAT IT READS IS OF BULK AT MOST 1048576: true; the input reads as it did. -/
def countTriedUptoRow : OpenClaim := { program := "ytdmjcpindopjdaa", sum := "3751a66e9b168a5dc79b7a0848585ecd2d28248661d4137404ea5d64102faff9", func := "alembic/alembiclaw05.CountTried", spec := "countTried", inPlace := ["math/bits.Add64"], named := ["math/bits.divideError", "math/bits.overflowError"], apart := false, narrowed := true }
def CountTriedUptoSaid : Prop := countTriedUptoRow.holds Try.pinned (OpenSpec.upto countTriedSpec)

/-- 'alembiclaw05.CountUpto', WHERE WHAT IT READS IS OF BULK AT MOST 1048576: true; the input reads as it did. -/
def countUptoUptoRow : OpenClaim := { program := "ytdmjcpindopjdaa", sum := "3751a66e9b168a5dc79b7a0848585ecd2d28248661d4137404ea5d64102faff9", func := "alembic/alembiclaw05.CountUpto", spec := "countUpto", inPlace := ["math/bits.Add64"], recurses := true, named := ["math/bits.divideError", "math/bits.overflowError"], apart := false, narrowed := true }
def CountUptoUptoSaid : Prop := countUptoUptoRow.holds Try.pinned (OpenSpec.upto countUptoSpec)

/-- 'alembiclaw05.CountSame', WHERE WHAT IT READS IS OF BULK AT MOST 1048576: true; the input reads as it did. -/
def countSameUptoRow : OpenClaim := { program := "ytdmjcpindopjdaa", sum := "3751a66e9b168a5dc79b7a0848585ecd2d28248661d4137404ea5d64102faff9", func := "alembic/alembiclaw05.CountSame", spec := "countSame", inPlace := ["math/bits.Add64"], named := ["math/bits.divideError", "math/bits.overflowError"], apart := false, narrowed := true }
def CountSameUptoSaid : Prop := countSameUptoRow.holds Try.pinned (OpenSpec.upto countSameSpec)

/-- 'alembiclaw05.CountNumbers', WHERE WHAT IT READS IS OF BULK AT MOST 1048576: true; the input reads as it did. -/
def countNumbersUptoRow : OpenClaim := { program := "ytdmjcpindopjdaa", sum := "3751a66e9b168a5dc79b7a0848585ecd2d28248661d4137404ea5d64102faff9", func := "alembic/alembiclaw05.CountNumbers", spec := "countNumbers", inPlace := ["math/bits.Add64"], named := ["math/bits.divideError", "math/bits.overflowError"], apart := false, narrowed := true }
def CountNumbersUptoSaid : Prop := countNumbersUptoRow.holds Try.pinned (OpenSpec.upto countNumbersSpec)

/-- 'alembiclaw05.CountBurnside', WHERE WHAT IT READS IS OF BULK AT MOST 1048576: true; the input reads as it did. -/
def countBurnsideUptoRow : OpenClaim := { program := "ytdmjcpindopjdaa", sum := "3751a66e9b168a5dc79b7a0848585ecd2d28248661d4137404ea5d64102faff9", func := "alembic/alembiclaw05.CountBurnside", spec := "countBurnside", inPlace := ["math/bits.Add64"], recurses := true, named := ["math/bits.divideError", "math/bits.overflowError"], apart := false, narrowed := true }
def CountBurnsideUptoSaid : Prop := countBurnsideUptoRow.holds Try.pinned (OpenSpec.upto countBurnsideSpec)

/-- 'alembiclaw05.CountWalks', WHERE WHAT IT READS IS OF BULK AT MOST 1048576: true; the input reads as it did. -/
def countWalksUptoRow : OpenClaim := { program := "ytdmjcpindopjdaa", sum := "3751a66e9b168a5dc79b7a0848585ecd2d28248661d4137404ea5d64102faff9", func := "alembic/alembiclaw05.CountWalks", spec := "countWalks", inPlace := ["math/bits.Add64"], recurses := true, named := ["math/bits.divideError", "math/bits.overflowError"], apart := false, narrowed := true }
def CountWalksUptoSaid : Prop := countWalksUptoRow.holds Try.pinned (OpenSpec.upto countWalksSpec)

/-- 'alembiclaw05.CountWords', WHERE WHAT IT READS IS OF BULK AT MOST 1048576: true; the input reads as it did. -/
def countWordsUptoRow : OpenClaim := { program := "ytdmjcpindopjdaa", sum := "3751a66e9b168a5dc79b7a0848585ecd2d28248661d4137404ea5d64102faff9", func := "alembic/alembiclaw05.CountWords", spec := "countWords", inPlace := ["math/bits.Add64"], recurses := true, named := ["math/bits.divideError", "math/bits.overflowError"], apart := false, narrowed := true }
def CountWordsUptoSaid : Prop := countWordsUptoRow.holds Try.pinned (OpenSpec.upto countWordsSpec)

end Rows
end Go.Proofs.Ytdmjcpindopjdaa
