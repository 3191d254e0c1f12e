/-
  strings.CutPrefix and strings.ReplaceAll by the shelf's contracts (laid by the kit's tool): what they answer to texts. No conditions.
-/
import Derived.Shelf.Small.Wraps
import Derived.Shelf.Strings.Replace
import Derived.Shelf.Vars
import Derived.Test.YtkcbdemfmjciiaaDoorFaJb
import Derived.Test.YtkcbdemfmjciiaaDoorFaD
namespace Go.Proofs.YtkcbdemfmjciiaaDoor.Fa
open Go.Sy Go Go.Shelf Go.Proofs Go.RowKit Go.Proofs.YtkcbdemfmjciiaaDoor.Ed
set_option maxRecDepth 100000

def cutRen : Go.Shelf.Ren := ⟨fun | 103 => 74 | 210 => 86 | 206 => 95 | n => n, fun | 9 => 9 | 4 => 4 | 24 => 87 | 3 => 3 | n => n, fun | n => n⟩
theorem cutLays : Go.Proofs.Lays.n103 Tryd.prog cutRen := {
  mixed := by kernel_rfl
  f103 := Tryd.func74.trans (congrArg some (by kernel_rfl))
  f206 := Tryd.func95.trans (congrArg some (by kernel_rfl))
  f210 := Tryd.func86.trans (congrArg some (by kernel_rfl))
  t3 := Tryd.underlying3
  a3 := Tryd.isAgg3
  z3 := Tryd.sizeOf3
  v3 := Tryd.zeroValue3
  t4 := Tryd.underlying4
  a4 := Tryd.isAgg4
  z4 := Tryd.sizeOf4
  v4 := Tryd.zeroValue4
  t9 := Tryd.underlying9
  a9 := Tryd.isAgg9
  z9 := Tryd.sizeOf9
  v9 := Tryd.zeroValue9
  t24 := Tryd.underlying87
  a24 := Tryd.isAgg87
  z24 := Tryd.sizeOf87
  v24 := Tryd.zeroValue87 }
def repRen : Go.Shelf.Ren := ⟨fun | 155 => 75 | 154 => 87 | 138 => 96 | 165 => 97 | 143 => 98 | 166 => 99 | 197 => 100 | 169 => 101 | 195 => 102 | 218 => 103 | 240 => 104 | 241 => 105 | 219 => 106 | 260 => 107 | 276 => 108 | 277 => 109 | 217 => 110 | 225 => 111 | 224 => 112 | 267 => 113 | 266 => 114 | 314 => 115 | n => n, fun | 9 => 9 | 3 => 3 | 4 => 4 | 72 => 110 | 0 => 0 | 76 => 114 | 105 => 116 | 21 => 21 | 5 => 5 | 70 => 107 | 20 => 20 | 37 => 108 | 75 => 113 | 127 => 121 | 164 => 122 | 46 => 126 | 119 => 127 | 139 => 130 | 138 => 129 | 146 => 132 | 51 => 131 | 80 => 118 | n => n, fun | 1 => 5 | 3 => 6 | 4 => 7 | n => n⟩
theorem repLays : Go.Proofs.Lays.n155 Tryd.prog repRen := {
  mixed := by kernel_rfl
  f138 := Tryd.func96.trans (congrArg some (by kernel_rfl))
  f143 := Tryd.func98.trans (congrArg some (by kernel_rfl))
  f154 := Tryd.func87.trans (congrArg some (by kernel_rfl))
  f155 := Tryd.func75.trans (congrArg some (by kernel_rfl))
  f165 := Tryd.func97.trans (congrArg some (by kernel_rfl))
  f166 := Tryd.func99.trans (congrArg some (by kernel_rfl))
  f169 := Tryd.func101.trans (congrArg some (by kernel_rfl))
  f195 := Tryd.func102.trans (congrArg some (by kernel_rfl))
  f197 := Tryd.func100.trans (congrArg some (by kernel_rfl))
  f217 := Tryd.func110.trans (congrArg some (by kernel_rfl))
  f218 := Tryd.func103.trans (congrArg some (by kernel_rfl))
  f219 := Tryd.func106.trans (congrArg some (by kernel_rfl))
  f224 := Tryd.func112.trans (congrArg some (by kernel_rfl))
  f225 := Tryd.func111.trans (congrArg some (by kernel_rfl))
  f240 := Tryd.func104.trans (congrArg some (by kernel_rfl))
  f241 := Tryd.func105.trans (congrArg some (by kernel_rfl))
  f260 := Tryd.func107.trans (congrArg some (by kernel_rfl))
  f266 := Tryd.func114.trans (congrArg some (by kernel_rfl))
  f267 := Tryd.func113.trans (congrArg some (by kernel_rfl))
  f276 := Tryd.func108.trans (congrArg some (by kernel_rfl))
  f277 := Tryd.func109.trans (congrArg some (by kernel_rfl))
  f314 := Tryd.func115.trans (congrArg some (by kernel_rfl))
  t0 := Tryd.underlying0
  a0 := Tryd.isAgg0
  z0 := Tryd.sizeOf0
  v0 := Tryd.zeroValue0
  t3 := Tryd.underlying3
  a3 := Tryd.isAgg3
  z3 := Tryd.sizeOf3
  v3 := Tryd.zeroValue3
  t4 := Tryd.underlying4
  a4 := Tryd.isAgg4
  z4 := Tryd.sizeOf4
  v4 := Tryd.zeroValue4
  t5 := Tryd.underlying5
  a5 := Tryd.isAgg5
  z5 := Tryd.sizeOf5
  v5 := Tryd.zeroValue5
  t9 := Tryd.underlying9
  a9 := Tryd.isAgg9
  z9 := Tryd.sizeOf9
  v9 := Tryd.zeroValue9
  t20 := Tryd.underlying20
  a20 := Tryd.isAgg20
  z20 := Tryd.sizeOf20
  v20 := Tryd.zeroValue20
  t21 := Tryd.underlying21
  a21 := Tryd.isAgg21
  z21 := Tryd.sizeOf21
  v21 := Tryd.zeroValue21
  t37 := Tryd.underlying108
  a37 := Tryd.isAgg108
  z37 := Tryd.sizeOf108
  v37 := Tryd.zeroValue108
  t46 := Tryd.underlying126
  a46 := Tryd.isAgg126
  z46 := Tryd.sizeOf126
  v46 := Tryd.zeroValue126
  t51 := Tryd.underlying131
  a51 := Tryd.isAgg131
  z51 := Tryd.sizeOf131
  v51 := Tryd.zeroValue131
  t70 := Tryd.underlying107
  a70 := Tryd.isAgg107
  z70 := Tryd.sizeOf107
  v70 := Tryd.zeroValue107
  t72 := Tryd.underlying110
  a72 := Tryd.isAgg110
  z72 := Tryd.sizeOf110
  v72 := Tryd.zeroValue110
  t75 := Tryd.underlying113
  a75 := Tryd.isAgg113
  z75 := Tryd.sizeOf113
  v75 := Tryd.zeroValue113
  t76 := Tryd.underlying114
  a76 := Tryd.isAgg114
  z76 := Tryd.sizeOf114
  v76 := Tryd.zeroValue114
  t105 := Tryd.underlying116
  a105 := Tryd.isAgg116
  z105 := Tryd.sizeOf116
  v105 := Tryd.zeroValue116
  t119 := Tryd.underlying127
  a119 := Tryd.isAgg127
  z119 := Tryd.sizeOf127
  t127 := Tryd.underlying121
  a127 := Tryd.isAgg121
  z127 := Tryd.sizeOf121
  v127 := Tryd.zeroValue121
  t138 := Tryd.underlying129
  a138 := Tryd.isAgg129
  z138 := Tryd.sizeOf129
  v138 := Tryd.zeroValue129
  t139 := Tryd.underlying130
  a139 := Tryd.isAgg130
  z139 := Tryd.sizeOf130
  v139 := Tryd.zeroValue130
  t146 := Tryd.underlying132
  a146 := Tryd.isAgg132
  z146 := Tryd.sizeOf132
  v146 := Tryd.zeroValue132
  t164 := Tryd.underlying122
  a164 := Tryd.isAgg122
  z164 := Tryd.sizeOf122
  v164 := Tryd.zeroValue122
  g1 := by kernel_rfl
  g3 := by kernel_rfl
  g4 := by kernel_rfl }
theorem repExtra : Builder.Extra Tryd.prog repRen := {
  sizeBuilder := by kernel_rfl
  liesBuilder := by kernel_rfl
  t5 := Tryd.underlying5
  a5 := Tryd.isAgg5
  z5 := Tryd.sizeOf5
  v5 := Tryd.zeroValue5
  infoByte := by kernel_rfl
  cellsByte := by kernel_rfl
  sizeByte := by kernel_rfl
  neB5 := by decide }

theorem strings_CutPrefix (s p : ByteArray) (w : World) :
    Calls Tryd.prog 74 #[.string s, .string p] w fun e w' => e = .returned (.tuple #[.string ⟨(Lib.trimPrefix s.data.toList p.data.toList).toArray⟩, .bool (Lib.hasPrefix s.data.toList p.data.toList)]) ∧ w' = w := Any.strings_CutPrefix cutLays s p w
theorem strings_ReplaceAll (s old new : ByteArray) (m : Int) (w : World)
    (hs : s.size < 4294967281) (hm : w.cell? ⟨5, 0, none⟩ = some (.int .i64 m)) (h1 : 1 ≤ old.size) (hlen : s.size + Lib.countB s old * new.size ≤ 140737488355328) :
    Calls Tryd.prog 75 #[.string s, .string old, .string new] w fun e w' => e = .returned (.string ⟨(Lib.replaceAll s.data.toList old.data.toList new.data.toList).toArray⟩) ∧ Below w.heap.size w w' := Any.strings_ReplaceAll repLays repExtra s old new m w hs hm h1 hlen

/-! ### The library's variable MaxLen holds some number -/

def Gm (m : Int) (g : Nat) : V := bif Nat.beq g 5 then .pp (iV m) else Gl g
theorem Gm_at (m : Int) : Gm m 5 = .pp (iV m) := rfl
theorem envG_m {m : Int} {S : Nat → Prop} {w : World} (h : EnvG (Gm m) S w) : EnvG Gl S w := fun g => by
  cases hg : Nat.beq g 5 with
  | true =>
    have := Nat.eq_of_beq_eq_true hg
    subst this
    show VR S w .und noK _
    trivial
  | false =>
    have := h g
    unfold Gm at this
    rw [hg] at this
    exact this
theorem gmC {f : FuncId} {F : List V → T (V × List Blk)} (m : Int) (h : PureC Tryd.prog Gl f F) : PureC Tryd.prog (Gm m) f F :=
  ⟨h.1, fun vs cs S w v h' h1 h2 h3 h4 => h.2 vs cs S w v h' h1 (envG_m h2) h3 h4⟩
theorem env_max {W : World} (hE : EnvG Gl (Live W) W) (hsh : W.ShapedOpen Tryd.prog) : ∃ m, EnvG (Gm m) (Live W) W := by
  obtain ⟨m, hm⟩ := cell_of_shapedOpen_int (P := Tryd.prog) (g := 5) (t := 3) (zero := #[.int .i64 0]) (k := .i64) hsh (of_decide_eq_true (by kernel_rfl)) (by kernel_rfl) rfl (by kernel_rfl) (by kernel_rfl) Tryd.underlying3
  refine ⟨m, fun g => ?_⟩
  cases hg : Nat.beq g 5 with
  | true =>
    have := Nat.eq_of_beq_eq_true hg
    subst this
    refine ⟨5, 0, .int .i64 m, rfl, rfl, fun j v hj => ?_⟩
    have hj : [Value.int .i64 m][j]? = some v := hj
    cases j with
    | zero =>
      simp only [List.getElem?_cons_zero, Option.some.injEq] at hj
      subst hj
      exact ⟨World.block_lt_of_cell? _ _ hm, hm⟩
    | succ j => simp at hj
  | false =>
    have := hE g
    unfold Gm
    rw [hg]
    exact this

theorem ext_below {S : Nat → Prop} {w w' : World} (h : Below w.heap.size w w') : Ext noK S [] w noK S [] w' :=
  Ext.ofNil h.os h.tape h.output h.size (fun b hb _ => h.block b hb) (fun i b hb => by rw [ownB_nil] at hb; (cases hb)) (fun _ hb => .inl hb) (fun _ hb => hb) fun _ _ hb => by cases hb

def cutS (p s : List UInt8) : List UInt8 := (cutR p s).1
def cutB (p s : List UInt8) : Bool := (cutR p s).2
def cutT : List V → T (V × List Blk)
  | [.str s, .str p] => out (.tup [.str (cutS p s), bV (cutB p s)])
  | _ => .fail
theorem pCut : PureC Tryd.prog Gl 74 cutT := by
  refine ⟨⟨Tryd.f74, Tryd.func74, by decide, by kernel_rfl⟩, fun vs cs S w v h' hS hE hv he => ?_⟩
  unfold cutT at he
  split at he
  · rename_i s p
    have := sem_leaf he
    simp only [Prod.mk.injEq] at this
    obtain ⟨rfl, rfl⟩ := this
    obtain ⟨c, l, rfl, q1, c2, l2, rfl, q2, q3⟩ := hv
    have q3 : l2 = [] := q3
    subst q3
    have q1 : c = .string ⟨s.toArray⟩ := q1
    subst q1
    have q2 : c2 = .string ⟨p.toArray⟩ := q2
    subst q2
    refine ⟨fun i b hb => by simp at hb, (strings_CutPrefix ⟨s.toArray⟩ ⟨p.toArray⟩ w).mono ?_⟩
    rintro e w' ⟨he, rfl⟩
    have hs := cut_spec p s
    rw [Prod.ext_iff] at hs
    have he : e = .returned (.tuple #[.string ⟨(Lib.trimPrefix s p).toArray⟩, .bool (Lib.hasPrefix s p)]) := he
    rw [show Lib.trimPrefix s p = (cutR p s).1 from hs.1, show Lib.hasPrefix s p = (cutR p s).2 from hs.2] at he
    exact ⟨_, noK, S, he, Good.empty hS, ⟨_, rfl, _, _, rfl, rfl, _, _, rfl, rfl, rfl⟩, Ext.refl _ _ _ _⟩
  · cases he

def repOK (s o r : List UInt8) : Bool := seq o [43] && (seq r [32] && Nat.ble s.length 262144)
def repT : List V → T (V × List Blk)
  | [.str s, .str o, .str r] => .br (repOK s o r) (out (.str (unp s))) .fail
  | _ => .fail
theorem pRep (m : Int) : PureC Tryd.prog (Gm m) 75 repT := by
  refine ⟨⟨Tryd.f75, Tryd.func75, by decide, by kernel_rfl⟩, fun vs cs S w v h' hS hE hv he => ?_⟩
  unfold repT at he
  split at he
  · rename_i s o r
    obtain ⟨hk, hq⟩ := sem_br_fail he
    have := sem_leaf hq
    simp only [Prod.mk.injEq] at this
    obtain ⟨rfl, rfl⟩ := this
    simp only [repOK, Bool.and_eq_true] at hk
    obtain ⟨h1, h2, h3⟩ := hk
    have h1 : o = [43] := by simpa [seq] using h1
    have h2 : r = [32] := by simpa [seq] using h2
    have h3 : s.length ≤ 262144 := Nat.le_of_ble_eq_true h3
    subst h1
    subst h2
    obtain ⟨c, l, rfl, q1, c2, l2, rfl, q2, c3, l3, rfl, q3, q4⟩ := hv
    have q4 : l3 = [] := q4
    subst q4
    have q1 : c = .string ⟨s.toArray⟩ := q1
    subst q1
    have q2 : c2 = .string ⟨[(43 : UInt8)].toArray⟩ := q2
    subst q2
    have q3 : c3 = .string ⟨[(32 : UInt8)].toArray⟩ := q3
    subst q3
    obtain ⟨b, of, cv, e1, e2, e3⟩ := hE 5
    simp only [Value.pointer.injEq, Option.some.injEq, Addr.mk.injEq] at e1
    obtain ⟨rfl, rfl, _⟩ := e1
    have e2 : cv = .int .i64 m := e2
    subst e2
    have hcell : w.cell? ⟨5, 0, none⟩ = some (.int .i64 m) := (e3 0 (.int .i64 m) rfl).2
    have hcount : Lib.countB ⟨s.toArray⟩ ⟨[(43 : UInt8)].toArray⟩ ≤ s.length := countFrom_le _ _
    have hsz : (⟨s.toArray⟩ : ByteArray).size = s.length := by simp [ByteArray.size]
    refine ⟨fun i b hb => by simp at hb, (strings_ReplaceAll ⟨s.toArray⟩ ⟨[(43 : UInt8)].toArray⟩ ⟨[(32 : UInt8)].toArray⟩ m w (by rw [hsz]; omega) hcell (by decide) (by
      rw [hsz, show (⟨[(32 : UInt8)].toArray⟩ : ByteArray).size = 1 from rfl]
      omega)).mono ?_⟩
    rintro e w' ⟨he, hb⟩
    have he : e = .returned (.string ⟨(Lib.replaceAll s [43] [32]).toArray⟩) := he
    rw [replaceAll_plus] at he
    exact ⟨_, noK, S, he, Good.empty (fun k hk => Nat.lt_of_lt_of_le (hS k hk) hb.size), rfl, ext_below hb⟩
  · cases he

#print axioms pCut
#print axioms pRep

end Go.Proofs.YtkcbdemfmjciiaaDoor.Fa
