/-
  The variables of the law FamilyApart: two of the library's are listed too. No program.
-/
import Derived.Test.YtkcbdemfmjciiaaDoorEdF
import Derived.Test.YtkcbdemfmjciiaaDoorFaO
namespace Go.Proofs.YtkcbdemfmjciiaaDoor.Fa
open Go.Sy Go Go.Proofs.YtkcbdemfmjciiaaDoor.Ed
set_option maxRecDepth 100000

theorem envA {W : World} (hL : laidMetH Tryd.prog Rows.familyApartRow.laid W) : EnvG Gl (Live W) W := by
  have hL : laidMet Tryd.prog [("alembic/edge.comms", .agg (commsL.map fun z => .lit (.string z))), ("alembic/edge.ends", .agg (endsL.map fun z => .lit (.string z))), ("alembic/edge.sets", .agg (setsL.map fun z => .lit (.string z))), ("alembic/edge.deps", .agg (depsL.map fun z => .lit (.string z))), ("unicode/utf8.acceptRanges", Rows.laid_unicode_utf8_acceptRanges), ("alembic/family.all", .agg (famL.map fun z => .agg [.lit (.string z.1), .lit (.string z.2)])), ("unicode/utf8.first", Rows.laid_unicode_utf8_first)] W := hL
  obtain ⟨ps, hv, _, _⟩ := hL
  obtain ⟨h1, q1, hv⟩ := texts_ok (g := 1) (t := 96) (e := 9) (n := 6) (by kernel_rfl) (by kernel_rfl) (by kernel_rfl) (by kernel_rfl) (by kernel_rfl) (by kernel_rfl) hv
  obtain ⟨h4, q4, hv⟩ := texts_ok (g := 4) (t := 99) (e := 9) (n := 4) (by kernel_rfl) (by kernel_rfl) (by kernel_rfl) (by kernel_rfl) (by kernel_rfl) (by kernel_rfl) hv
  obtain ⟨h3, q3, hv⟩ := texts_ok (g := 3) (t := 98) (e := 9) (n := 9) (by kernel_rfl) (by kernel_rfl) (by kernel_rfl) (by kernel_rfl) (by kernel_rfl) (by kernel_rfl) hv
  obtain ⟨h2, q2, hv⟩ := texts_ok (g := 2) (t := 97) (e := 9) (n := 10) (by kernel_rfl) (by kernel_rfl) (by kernel_rfl) (by kernel_rfl) (by kernel_rfl) (by kernel_rfl) hv
  obtain ⟨_, _, _, _, _, _, _, _, _, _, hv, _⟩ := hv
  obtain ⟨h0, q0, hv⟩ := pairs_ok (g := 0) (t := 56) (e := 55) (n := 25) (by kernel_rfl) (by kernel_rfl) (by kernel_rfl) (he := Tryd.underlying55) (by kernel_rfl) (by kernel_rfl) (by kernel_rfl) (by kernel_rfl) (by kernel_rfl) (by kernel_rfl) (by kernel_rfl) (by kernel_rfl) hv
  intro g
  match g with
  | 0 => exact h0
  | 1 => exact h1
  | 2 => exact h2
  | 3 => exact h3
  | 4 => exact h4
  | n + 5 => trivial


/-- A world for the witness: the settled one, the listed variables as their initialisers lay them. -/
noncomputable def laidWorldA (os : Os) : World :=
  { World.holding Tryd.prog os ⟨#[], #[], []⟩ with heap := (World.holding Tryd.prog os ⟨#[], #[], []⟩).heap.mapIdx fun i o => match o with
      | .cells cs t frozen => .cells (match i with
        | 0 => ((pairsF famL).map fun z => Value.string ⟨z.toArray⟩).toArray
        | 1 => (commsL.map fun z => Value.string ⟨z.toArray⟩).toArray
        | 2 => (depsL.map fun z => Value.string ⟨z.toArray⟩).toArray
        | 3 => (setsL.map fun z => Value.string ⟨z.toArray⟩).toArray
        | 4 => (endsL.map fun z => Value.string ⟨z.toArray⟩).toArray
        | 6 => (Pinned.utf8FirstZ.map fun z : Nat => Value.int .u8 (z : Int)).toArray
        | 7 => (([128, 191, 160, 191, 128, 159, 144, 191, 128, 143] ++ List.replicate 22 0).map fun z : Nat => Value.int .u8 (z : Int)).toArray
        | _ => cs) t frozen
      | o => o }

end Go.Proofs.YtkcbdemfmjciiaaDoor.Fa
