/-
  DERIVED. GIVEN WITH THE SEED: THE PROGRAM's TIES (one call each: nine closed facts by the kernel) AND EACH ROW's TIE, after the 31st guide's Derived/Test/Toyas{Tie, Card}.lean. No idea stands in it: it is a product of the set-up. Laid BY PROGRAM, IN A SANDBOX (cutbox-door.mjs). By AI agents, Wed Nov 11 2026. No macro, syntax, notation, axiom, sorry.
-/
import Derived.Test.YtkcbdemfmjciiaaGreatDoorRows
import Derived.LaidByTextLater
import Derived.SevenTiedAt
import Derived.LaidSub
import Derived.LaidOnce
namespace Go.Proofs.YtkcbdemfmjciiaaGreatDoor
open Go
set_option maxRecDepth 100000
theorem seatTie1 : Tryz.prog.laidByTextLater [("alembic/edge.comms", Rows.laid_alembic_edge_comms), ("alembic/edge.ends", Rows.laid_alembic_edge_ends), ("alembic/edge.sets", Rows.laid_alembic_edge_sets), ("alembic/edge.deps", Rows.laid_alembic_edge_deps), ("unicode/utf8.acceptRanges", Rows.laid_unicode_utf8_acceptRanges), ("alembic/family.all", Rows.laid_alembic_family_all)] [.data, .data, .data, .data, .data, .data] true :=
  Program.laidByTextLater_by_one 69 8 51 (by kernel_rfl) (by kernel_rfl) (by kernel_rfl) (by kernel_rfl) (by kernel_rfl) (by kernel_rfl) (fun _ _ => by kernel_rfl)
theorem pin_laid_unicode_utf8_first : Tryz.pinned.checked.prog.pinnedFits "unicode/utf8.first" = true := by kernel_rfl
theorem noOwnUnsafe : Tryz.pinned.checked.prog.headLifts.contains "ownunsafe" = false := by kernel_rfl
theorem fits1 : Tryz.pinned.checked.prog.listedFits [("alembic/edge.comms", Rows.laid_alembic_edge_comms), ("alembic/edge.ends", Rows.laid_alembic_edge_ends), ("alembic/edge.sets", Rows.laid_alembic_edge_sets), ("alembic/edge.deps", Rows.laid_alembic_edge_deps), ("unicode/utf8.acceptRanges", Rows.laid_unicode_utf8_acceptRanges), ("alembic/family.all", Rows.laid_alembic_family_all), ("unicode/utf8.first", Rows.laid_unicode_utf8_first)] = true := by
  unfold Program.listedFits
  rw [noOwnUnsafe]
  kernel_rfl
theorem tie : Tryz.prog.laidByTextLater [("alembic/edge.comms", Rows.laid_alembic_edge_comms), ("alembic/edge.ends", Rows.laid_alembic_edge_ends), ("alembic/edge.sets", Rows.laid_alembic_edge_sets), ("alembic/edge.deps", Rows.laid_alembic_edge_deps), ("unicode/utf8.acceptRanges", Rows.laid_unicode_utf8_acceptRanges), ("alembic/family.all", Rows.laid_alembic_family_all)] [.data, .data, .data, .data, .data, .data] true :=
  Program.laidByTextLater.sub seatTie1 ["alembic/edge.comms", "alembic/edge.ends", "alembic/edge.sets", "alembic/edge.deps", "unicode/utf8.acceptRanges", "alembic/family.all"] (by kernel_rfl) (by kernel_rfl)
theorem familyCycles_row_tie : Rows.familyCyclesRow.laidByTextAt .later Tryz.pinned [.data, .data, .data, .data, .data, .data, .pinned] true :=
  OpenClaim.laidByTextAt_pinned rfl rfl tie rfl rfl rfl rfl (fun y hy _e => by
    simp only [Rows.familyCyclesRow, List.zip_cons_cons, List.zip_nil_right, List.mem_cons, List.mem_nil_iff, or_false] at hy
    rcases hy with rfl | rfl | rfl | rfl | rfl | rfl | rfl
    · cases _e
    · cases _e
    · cases _e
    · cases _e
    · cases _e
    · cases _e
    · exact ⟨pin_laid_unicode_utf8_first, by kernel_rfl⟩) fits1
theorem familyCyclesUpto_row_tie : Rows.familyCyclesUptoRow.laidByTextAt .later Tryz.pinned [.data, .data, .data, .data, .data, .data, .pinned] true :=
  OpenClaim.laidByTextAt_pinned rfl rfl tie rfl rfl rfl rfl (fun y hy _e => by
    simp only [Rows.familyCyclesUptoRow, List.zip_cons_cons, List.zip_nil_right, List.mem_cons, List.mem_nil_iff, or_false] at hy
    rcases hy with rfl | rfl | rfl | rfl | rfl | rfl | rfl
    · cases _e
    · cases _e
    · cases _e
    · cases _e
    · cases _e
    · cases _e
    · exact ⟨pin_laid_unicode_utf8_first, by kernel_rfl⟩) fits1
end Go.Proofs.YtkcbdemfmjciiaaGreatDoor
