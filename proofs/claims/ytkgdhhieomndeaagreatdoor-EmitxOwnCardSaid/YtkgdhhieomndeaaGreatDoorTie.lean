/-
  DERIVED. GIVEN WITH THE SEED: THE PROGRAM's TIES (one call each: nine closed facts by the kernel) AND EACH ROW's TIE, after the 31st guide's Derived/Test/Toyas{Tie, Card}.lean. No idea stands in it: it is a product of the set-up. Laid BY PROGRAM, IN A SANDBOX (cutbox-door.mjs). By AI agents, Wed Nov 11 2026. No macro, syntax, notation, axiom, sorry.
-/
import Derived.Test.YtkgdhhieomndeaaGreatDoorRows
import Derived.LaidByTextLater
import Derived.SevenTiedAt
import Derived.LaidSub
import Derived.LaidOnce
namespace Go.Proofs.YtkgdhhieomndeaaGreatDoor
open Go
set_option maxRecDepth 100000
theorem seatTie1 : Tryz.prog.laidByTextLater [("alembic/edge.comms", Rows.laid_alembic_edge_comms), ("alembic/edge.ends", Rows.laid_alembic_edge_ends), ("alembic/edge.sets", Rows.laid_alembic_edge_sets), ("alembic/edge.deps", Rows.laid_alembic_edge_deps)] [.data, .data, .data, .data] true :=
  Program.laidByTextLater_by_one 29 8 11 (by kernel_rfl) (by kernel_rfl) (by kernel_rfl) (by kernel_rfl) (by kernel_rfl) (by kernel_rfl) (fun _ _ => by kernel_rfl)
theorem noOwnUnsafe : Tryz.pinned.checked.prog.headLifts.contains "ownunsafe" = false := by kernel_rfl
theorem tie : Tryz.prog.laidByTextLater [("alembic/edge.comms", Rows.laid_alembic_edge_comms), ("alembic/edge.ends", Rows.laid_alembic_edge_ends), ("alembic/edge.sets", Rows.laid_alembic_edge_sets), ("alembic/edge.deps", Rows.laid_alembic_edge_deps)] [.data, .data, .data, .data] true :=
  Program.laidByTextLater.sub seatTie1 ["alembic/edge.comms", "alembic/edge.ends", "alembic/edge.sets", "alembic/edge.deps"] (by kernel_rfl) (by kernel_rfl)
theorem emitxTests_row_tie : Rows.emitxTestsRow.laidByTextAt .later Tryz.pinned [.data, .data, .data, .data] true :=
  OpenClaim.laidByTextAt_later rfl rfl tie noOwnUnsafe
theorem emitxOwn_row_tie : Rows.emitxOwnRow.laidByTextAt .later Tryz.pinned [.data, .data, .data, .data] true :=
  OpenClaim.laidByTextAt_later rfl rfl tie noOwnUnsafe
theorem emitxTestsUpto_row_tie : Rows.emitxTestsUptoRow.laidByTextAt .later Tryz.pinned [.data, .data, .data, .data] true :=
  OpenClaim.laidByTextAt_later rfl rfl tie noOwnUnsafe
theorem emitxOwnUpto_row_tie : Rows.emitxOwnUptoRow.laidByTextAt .later Tryz.pinned [.data, .data, .data, .data] true :=
  OpenClaim.laidByTextAt_later rfl rfl tie noOwnUnsafe
end Go.Proofs.YtkgdhhieomndeaaGreatDoor
