/-
  strings.Join by the shelf's contract (laid by the kit's tool): what it answers to a list of texts. No conditions.
-/
import Derived.Shelf.Strings.OnBuilder
import Derived.Test.YtcaljjnadbpacaaDoorCyT
namespace Go.Proofs.YtcaljjnadbpacaaDoor.Ed
open Go.Sy Go.Shelf Go.Proofs Go.RowKit

def joinRen : Go.Shelf.Ren := ⟨fun | 156 => 100 | 165 => 110 | 166 => 111 | 169 => 112 | 240 => 117 | 241 => 118 | 276 => 120 | 277 => 121 | n => n, fun | 31 => 84 | 9 => 9 | 3 => 3 | 4 => 4 | 0 => 0 | 20 => 20 | 72 => 98 | 76 => 102 | 70 => 96 | 37 => 68 | 75 => 101 | 127 => 108 | 164 => 109 | 5 => 5 | 80 => 104 | n => n, fun | n => n⟩
theorem joinLays : Go.Proofs.Lays.n156 Tryd.prog joinRen := {
  mixed := by kernel_rfl
  f156 := Tryd.func100.trans (congrArg some (by kernel_rfl))
  f165 := Tryd.func110.trans (congrArg some (by kernel_rfl))
  f166 := Tryd.func111.trans (congrArg some (by kernel_rfl))
  f169 := Tryd.func112.trans (congrArg some (by kernel_rfl))
  f240 := Tryd.func117.trans (congrArg some (by kernel_rfl))
  f241 := Tryd.func118.trans (congrArg some (by kernel_rfl))
  f276 := Tryd.func120.trans (congrArg some (by kernel_rfl))
  f277 := Tryd.func121.trans (congrArg some (by kernel_rfl))
  t0 := Tryd.underlying0
  a0 := Tryd.isAgg0
  z0 := Tryd.sizeOf0
  v0 := Tryd.zeroValue0
  t3 := Tryd.underlying3
  a3 := Tryd.isAgg3
  z3 := Tryd.sizeOf3
  v3 := Tryd.zeroValue3
  t4 := Tryd.underlying4
  a4 := Tryd.isAgg4
  z4 := Tryd.sizeOf4
  v4 := Tryd.zeroValue4
  t9 := Tryd.underlying9
  a9 := Tryd.isAgg9
  z9 := Tryd.sizeOf9
  v9 := Tryd.zeroValue9
  t20 := Tryd.underlying20
  a20 := Tryd.isAgg20
  z20 := Tryd.sizeOf20
  v20 := Tryd.zeroValue20
  t31 := Tryd.underlying84
  a31 := Tryd.isAgg84
  z31 := Tryd.sizeOf84
  v31 := Tryd.zeroValue84
  t37 := Tryd.underlying68
  a37 := Tryd.isAgg68
  z37 := Tryd.sizeOf68
  v37 := Tryd.zeroValue68
  t70 := Tryd.underlying96
  a70 := Tryd.isAgg96
  z70 := Tryd.sizeOf96
  v70 := Tryd.zeroValue96
  t72 := Tryd.underlying98
  a72 := Tryd.isAgg98
  z72 := Tryd.sizeOf98
  v72 := Tryd.zeroValue98
  t75 := Tryd.underlying101
  a75 := Tryd.isAgg101
  z75 := Tryd.sizeOf101
  v75 := Tryd.zeroValue101
  t76 := Tryd.underlying102
  a76 := Tryd.isAgg102
  z76 := Tryd.sizeOf102
  v76 := Tryd.zeroValue102
  t127 := Tryd.underlying108
  a127 := Tryd.isAgg108
  z127 := Tryd.sizeOf108
  v127 := Tryd.zeroValue108
  t164 := Tryd.underlying109
  a164 := Tryd.isAgg109
  z164 := Tryd.sizeOf109
  v164 := Tryd.zeroValue109 }
theorem joinExtra : Builder.Extra Tryd.prog joinRen := {
  sizeBuilder := by kernel_rfl
  liesBuilder := by kernel_rfl
  t5 := Tryd.underlying5
  a5 := Tryd.isAgg5
  z5 := Tryd.sizeOf5
  v5 := Tryd.zeroValue5
  infoByte := by kernel_rfl
  cellsByte := by kernel_rfl
  sizeByte := by kernel_rfl
  neB5 := by decide }
open Go.RowKit in
/-- No element: the empty string; the world is as it was. (Whatever the slice's address and capacity: a nil slice too.) (LAID: no walk: one application.) -/
theorem strings_Join_none (a : Option Addr) (c : Nat) (sep : ByteArray) (w : World) :
    Calls Tryd.prog 100 #[.slice a 0 c, .string sep] w fun e w' => e = .returned (.string ⟨#[]⟩) ∧ w' = w := Any.strings_Join_none joinLays joinExtra a c sep w
open Go.RowKit in
/-- strings.Join: "Join concatenates the elements of its first argument to create a single string. The separator string sep is placed between elements in the resulting string.": HOWEVER MANY ELEMENTS. Below the heap's end the world is as it was. (LAID: no walk: one application.) -/
theorem strings_Join (bk o c : Nat) (xs : List ByteArray) (sep : ByteArray) (w : World) (hcells : ∀ (j : Nat) x, xs[j]? = some x → w.cell? ⟨bk, o + j, none⟩ = some (.string x)) (hbk : bk < w.heap.size) (hN : xs.length ≤ 140737488355328) (hcap : xs.length ≤ c) (hlen : (Lib.join (xs.map (·.data.toList)) sep.data.toList).length ≤ 140737488355328) :
    Calls Tryd.prog 100 #[.slice (some ⟨bk, o, none⟩) xs.length c, .string sep] w fun e w' => e = .returned (.string ⟨(Lib.join (xs.map (·.data.toList)) sep.data.toList).toArray⟩) ∧ Below w.heap.size w w' := Any.strings_Join joinLays joinExtra bk o c xs sep w hcells hbk hN hcap hlen
def okS (v : V) : Bool := match gS v with
  | some _ => true
  | none => false
def edS (v : V) : List UInt8 := match gS v with
  | some e => e
  | none => []

theorem okS_spec {v : V} (h : okS v = true) : v = .str (edS v) := by
  unfold okS at h
  unfold edS
  split at h
  · rename_i e he
    exact gS_some he
  · cases h

def strsV (n : Nat) (f : Nat → List UInt8) : V := .sl 1 n fun i => .str (f i)

def apS {α : Type} (v : V) (F : Nat → (Nat → List UInt8) → T α) : T α :=
  match gSlI v with
  | some (n, g) => .br (allN n fun i => okS (g i)) (F n fun i => edS (g i)) .fail
  | none => .fail

theorem apS_some {α : Type} {v : V} {F : Nat → (Nat → List UInt8) → T α} {r : α} (h : (apS v F).sem = some r) :
    ∃ n f, (∀ (S : Nat → Prop) (w : World) (c : Value), VR S w v noK c → VR S w (strsV n f) noK c) ∧ (F n f).sem = some r := by
  unfold apS at h
  split at h
  · rename_i n g hg
    obtain ⟨h1, h2⟩ := sem_br_fail h
    have h1 := allN_iff.1 h1
    refine ⟨n, _, fun S w c hv => ?_, h2⟩
    unfold gSlI at hg
    split at hg
    · rename_i s n' g'
      split at hg
      · rename_i hs
        simp only [Option.some.injEq, Prod.mk.injEq] at hg
        obtain ⟨rfl, rfl⟩ := hg
        have hs : s = 1 := Nat.eq_of_beq_eq_true hs
        subst hs
        obtain ⟨a, cap, e, hc, hb⟩ := hv
        refine ⟨a, cap, e, hc, hb.imp id ?_⟩
        rintro ⟨b, o, ea, hel⟩
        refine ⟨b, o, ea, fun i hi => ?_⟩
        have := hel i hi
        rw [okS_spec (h1 i hi)] at this
        exact this
      · cases hg
    · cases hg
  · cases h


def joinF (n : Nat) (g : Nat → List UInt8) (sep : List UInt8) : List UInt8 := Lib.join ((List.range n).map g) sep
def joinOK (n : Nat) (g : Nat → List UInt8) (sep : List UInt8) : Bool := decide (n ≤ 140737488355328) && decide ((joinF n g sep).length ≤ 140737488355328)
def joinT : List V → T (V × List Blk)
  | [v, .str sep] => apS v fun n g => .br (joinOK n g sep) (out (.str (joinF n g sep))) .fail
  | _ => .fail

theorem ext_below {S : Nat → Prop} {w w' : World} (h : Below w.heap.size w w') : Ext noK S [] w noK S [] w' :=
  Ext.ofNil h.os h.tape h.output h.size (fun b hb _ => h.block b hb) (fun i b hb => by rw [ownB_nil] at hb; (cases hb)) (fun _ hb => .inl hb) (fun _ hb => hb) fun _ _ hb => by cases hb

theorem p100 : PureC Tryd.prog Gl 100 joinT := by
  refine ⟨⟨Tryd.f100, Tryd.func100, by decide, by kernel_rfl⟩, fun vs cs S w v h' hS hE hv he => ?_⟩
  unfold joinT at he
  split at he
  · rename_i u sep
    obtain ⟨n, g, ha, h1⟩ := apS_some he
    obtain ⟨hk, hq⟩ := sem_br_fail h1
    have := sem_leaf hq
    simp only [Prod.mk.injEq] at this
    obtain ⟨rfl, rfl⟩ := this
    simp only [joinOK, Bool.and_eq_true, decide_eq_true_eq] at hk
    obtain ⟨hn, hlen⟩ := hk
    obtain ⟨c, l, rfl, q1, c2, l2, rfl, q2, q3⟩ := hv
    have q3 : l2 = [] := q3
    subst q3
    have q2 : c2 = .string ⟨sep.toArray⟩ := q2
    subst q2
    obtain ⟨a, cap, rfl, hcap, hel⟩ := ha S w c q1
    refine ⟨fun i b hb => by simp at hb, ?_⟩
    cases n with
    | zero =>
      refine (strings_Join_none a cap ⟨sep.toArray⟩ w).mono ?_
      rintro e w' ⟨he, rfl⟩
      exact ⟨_, noK, S, he, Good.empty hS, rfl, Ext.refl _ _ _ _⟩
    | succ m =>
      rcases hel with h0 | ⟨b, o, rfl, hel⟩
      · cases h0
      · have hl : ((List.range (m + 1)).map fun i => (⟨(g i).toArray⟩ : ByteArray)).length = m + 1 := by simp
        have hd : ((List.range (m + 1)).map fun i => (⟨(g i).toArray⟩ : ByteArray)).map (·.data.toList) = (List.range (m + 1)).map g := by
          rw [List.map_map]
          apply List.map_congr_left
          intro i _
          simp
        have hcell : ∀ j, j < m + 1 → S b ∧ w.cell? ⟨b, o + j, none⟩ = some (.string ⟨(g j).toArray⟩) := fun j hj => by
          obtain ⟨ci, r1, _, _, r4⟩ := hel j hj
          have r1 : ci = .string ⟨(g j).toArray⟩ := r1
          subst r1
          have := r4 0 (.string ⟨(g j).toArray⟩) rfl
          rw [Nat.mul_one, Nat.add_zero] at this
          exact this
        have hJ := strings_Join b o cap ((List.range (m + 1)).map fun i => (⟨(g i).toArray⟩ : ByteArray)) ⟨sep.toArray⟩ w (fun j x hx => by
          rw [List.getElem?_map] at hx
          rcases Nat.lt_or_ge j (m + 1) with hj | hj
          · rw [List.getElem?_range hj] at hx
            simp at hx
            rw [← hx]
            exact (hcell j hj).2
          · rw [List.getElem?_eq_none (by simpa using hj)] at hx
            cases hx) (hS b (hcell 0 (Nat.succ_pos m)).1) (by rw [hl]; exact hn) (by rw [hl]; exact hcap) (by rw [hd]; simpa [joinF] using hlen)
        rw [hl, hd] at hJ
        refine hJ.mono ?_
        rintro e w' ⟨he, hb⟩
        refine ⟨_, noK, S, he, Good.empty (fun k hk => Nat.lt_of_lt_of_le (hS k hk) hb.size), ?_, ext_below hb⟩
        show _ = _
        simp [joinF]
  · cases he

#print axioms p100

end Go.Proofs.YtcaljjnadbpacaaDoor.Ed
