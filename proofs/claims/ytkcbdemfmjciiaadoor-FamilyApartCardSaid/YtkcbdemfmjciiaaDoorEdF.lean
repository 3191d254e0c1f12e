/-
  The frame of this seat's laws: arguments read, a world for the witness. No conditions.
-/
import Derived.Test.YtkcbdemfmjciiaaDoorEdD
import Derived.Test.YtkcbdemfmjciiaaDoorCards
import Derived.Test.YtkcbdemfmjciiaaDoorTie
import Derived.ProofKit
import Derived.OpenShut
import Derived.Deep.DeepHandedRow
namespace Go.Proofs.YtkcbdemfmjciiaaDoor.Ed
open Go.Sy
set_option maxRecDepth 100000

theorem own : ownKnob Tryd.prog.godebug = none := by kernel_rfl
theorem laidOut : laidOutB Tryd.prog = true := by kernel_rfl

def cellsE (e : E6) : List Value := [.int .i64 e.kind, .bool e.ext, .bool e.same, .int .i64 e.src, .int .i64 e.dst, .int .i64 e.fence]

section
variable {H : Type} {enc : TypeId × Value → H} {W : World} {sp : Nat → Bool} {held : Bool} {r : Reach} {b0 : Nat} {v : Value} {d : DataW H} {ps : List MemPlace}

theorem one_cell {c d : Value} {cs : List Value} (h : cs = [d]) (hc : [c] = cs) : c = d := by
  subst h
  simpa using hc

theorem edge_cells (fuel : Nat) (cs : List Value) (x : DataW H × List MemPlace) (h : DataW.trod enc Tryd.prog W 0 sp held fuel 43 cs = some x) : ∃ e : E6, cs = cellsE e := by
  obtain ⟨xs, n, _, _, hl, hx, hf⟩ := DataW.trod_struct Tryd.underlying43 h
  have hl : cs.length = 6 := hl.trans (by kernel_rfl)
  have hx : xs.length = 6 := hx
  obtain ⟨c0, c1, c2, c3, c4, c5, rfl⟩ : ∃ a b c d e f, cs = [a, b, c, d, e, f] := by
    match cs, hl with
    | [a, b, c, d, e, f], _ => exact ⟨a, b, c, d, e, f, rfl⟩
  have get : ∀ (i : Nat) (f : Field), #[({ name := "Kind", type := 3, offset := 0, embedded := false, tag := "", pkgPath := "", byteOffset := 0 } : Field),
        { name := "Ext", type := 4, offset := 1, embedded := false, tag := "", pkgPath := "", byteOffset := 8 },
        { name := "Same", type := 4, offset := 2, embedded := false, tag := "", pkgPath := "", byteOffset := 9 },
        { name := "Src", type := 3, offset := 3, embedded := false, tag := "", pkgPath := "", byteOffset := 16 },
        { name := "Dst", type := 3, offset := 4, embedded := false, tag := "", pkgPath := "", byteOffset := 24 },
        { name := "Fence", type := 3, offset := 5, embedded := false, tag := "", pkgPath := "", byteOffset := 32 }][i]? = some f → i < 6 →
      ∃ y, DataW.trod enc Tryd.prog W 0 sp held n f.type (([c0, c1, c2, c3, c4, c5].drop f.offset).take (Tryd.prog.cellsOf f.type)) = some y := by
    intro i f hi hlt
    have := hf i f hi
    rw [List.getElem?_eq_getElem (by omega)] at this
    exact ⟨_, this⟩
  have n3 : Tryd.prog.cellsOf 3 = 1 := by kernel_rfl
  have n4 : Tryd.prog.cellsOf 4 = 1 := by kernel_rfl
  obtain ⟨y0, g0⟩ := get 0 _ rfl (by omega)
  obtain ⟨y1, g1⟩ := get 1 _ rfl (by omega)
  obtain ⟨y2, g2⟩ := get 2 _ rfl (by omega)
  obtain ⟨y3, g3⟩ := get 3 _ rfl (by omega)
  obtain ⟨y4, g4⟩ := get 4 _ rfl (by omega)
  obtain ⟨y5, g5⟩ := get 5 _ rfl (by omega)
  have g0 : DataW.trod enc Tryd.prog W 0 sp held n 3 (([c0, c1, c2, c3, c4, c5].drop 0).take (Tryd.prog.cellsOf 3)) = some y0 := g0
  rw [n3] at g0
  have g1 : DataW.trod enc Tryd.prog W 0 sp held n 4 (([c0, c1, c2, c3, c4, c5].drop 1).take (Tryd.prog.cellsOf 4)) = some y1 := g1
  rw [n4] at g1
  have g2 : DataW.trod enc Tryd.prog W 0 sp held n 4 (([c0, c1, c2, c3, c4, c5].drop 2).take (Tryd.prog.cellsOf 4)) = some y2 := g2
  rw [n4] at g2
  have g3 : DataW.trod enc Tryd.prog W 0 sp held n 3 (([c0, c1, c2, c3, c4, c5].drop 3).take (Tryd.prog.cellsOf 3)) = some y3 := g3
  rw [n3] at g3
  have g4 : DataW.trod enc Tryd.prog W 0 sp held n 3 (([c0, c1, c2, c3, c4, c5].drop 4).take (Tryd.prog.cellsOf 3)) = some y4 := g4
  rw [n3] at g4
  have g5 : DataW.trod enc Tryd.prog W 0 sp held n 3 (([c0, c1, c2, c3, c4, c5].drop 5).take (Tryd.prog.cellsOf 3)) = some y5 := g5
  rw [n3] at g5
  obtain ⟨a0, e0, _⟩ := DataW.trod_int Tryd.underlying3 g0
  obtain ⟨a1, e1, _⟩ := DataW.trod_bool Tryd.underlying4 g1
  obtain ⟨a2, e2, _⟩ := DataW.trod_bool Tryd.underlying4 g2
  obtain ⟨a3, e3, _⟩ := DataW.trod_int Tryd.underlying3 g3
  obtain ⟨a4, e4, _⟩ := DataW.trod_int Tryd.underlying3 g4
  obtain ⟨a5, e5, _⟩ := DataW.trod_int Tryd.underlying3 g5
  have e0 : c0 = .int .i64 a0 := one_cell e0 rfl
  have e1 : c1 = .bool a1 := one_cell e1 rfl
  have e2 : c2 = .bool a2 := one_cell e2 rfl
  have e3 : c3 = .int .i64 a3 := one_cell e3 rfl
  have e4 : c4 = .int .i64 a4 := one_cell e4 rfl
  have e5 : c5 = .int .i64 a5 := one_cell e5 rfl
  exact ⟨⟨a0, a1, a2, a3, a4, a5⟩, by rw [e0, e1, e2, e3, e4, e5]; rfl⟩

theorem VR_edge (S : Nat → Prop) (w : World) (κ : Nat → Option Value) (e : E6) : VR S w (eV e) κ (.agg (cellsE e).toArray) :=
  ⟨_, rfl, _, _, rfl, rfl, _, _, rfl, rfl, _, _, rfl, rfl, _, _, rfl, rfl, _, _, rfl, rfl, _, _, rfl, rfl, rfl⟩

/-- An argument means a value. -/
def Reads (W : World) (v : Value) (u : V) : Prop := VR (Live W) W u noK v

theorem reads_int (hval : Value.okWide Tryd.prog W r b0 3 v) (h : DataW.Trod enc Tryd.prog W 0 sp held 3 v d ps) : ∃ n : Int, Reads W v (iV n) := by
  obtain ⟨n, rfl, _⟩ := ChangeShapes.open_int Tryd.underlying3 hval h
  exact ⟨n, rfl⟩

theorem reads_text (hval : Value.okWide Tryd.prog W r b0 9 v) (h : DataW.Trod enc Tryd.prog W 0 sp held 9 v d ps) : ∃ s : List UInt8, Reads W v (.str s) ∧ s.length ≤ maxLen ∧ d = .lit (.string s) := by
  obtain ⟨s, rfl, hd, _, hs⟩ := ChangeMaps.open_string Tryd.underlying9 hval h
  exact ⟨s.data.toList, rfl, hs, hd⟩

instance : Inhabited E6 := ⟨zeroE⟩

theorem reads_edges (hval : Value.okWide Tryd.prog W r b0 22 v) (h : DataW.Trod enc Tryd.prog W 0 sp held 22 v d ps) :
    ∃ (n : Nat) (xs : Nat → E6), Reads W v (.sl 6 n fun i => eV (xs i)) ∧ (n = 0 ∨ ∃ els rest, d = .slice els rest ∧ els.length = n) :=
  read_slice (f := cellsE) (g := eV) (s := 6) Tryd.underlying22 (by kernel_rfl) (by omega) (fun e u hu => by simp [cellsE] at hu; rcases hu with rfl | rfl | rfl | rfl | rfl | rfl <;> rfl)
    (fun S w e => ⟨_, VR_edge S w noK e, rfl⟩) edge_cells hval h

end

/-- A world for the witness: the settled one, the listed variables as their initialisers lay them. -/
noncomputable def laidWorld (os : Os) : World :=
  { World.holding Tryd.prog os ⟨#[], #[], []⟩ with heap := (World.holding Tryd.prog os ⟨#[], #[], []⟩).heap.mapIdx fun i o => match o with
      | .cells cs t frozen => .cells (match i with
        | 0 => ((pairsF famL).map fun z => Value.string ⟨z.toArray⟩).toArray
        | 1 => (commsL.map fun z => Value.string ⟨z.toArray⟩).toArray
        | 2 => (depsL.map fun z => Value.string ⟨z.toArray⟩).toArray
        | 3 => (setsL.map fun z => Value.string ⟨z.toArray⟩).toArray
        | 4 => (endsL.map fun z => Value.string ⟨z.toArray⟩).toArray
        | _ => cs) t frozen
      | o => o }

end Go.Proofs.YtkcbdemfmjciiaaDoor.Ed



