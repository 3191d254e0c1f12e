/-
  strings.CutPrefix and strings.ReplaceAll by the shelf's contracts (laid by the kit's tool): what they answer to texts. No conditions.
-/
import Derived.Shelf.Small.Wraps
import Derived.Shelf.Strings.Replace
import Derived.Shelf.Vars
import Derived.Test.YtkcbdemfmjciiaaGreatDoorFaJb
import Derived.Test.YtkcbdemfmjciiaaGreatDoorFaD
namespace Go.Proofs.YtkcbdemfmjciiaaGreatDoor.Fa
open Go.Sy Go Go.Shelf Go.Proofs Go.RowKit Go.Proofs.YtkcbdemfmjciiaaGreatDoor.Ed
set_option maxRecDepth 100000

def cutRen : Go.Shelf.Ren := ⟨fun | 103 => 13 | 210 => 24 | 206 => 54 | n => n, fun | 9 => 9 | 4 => 4 | 24 => 41 | 3 => 3 | n => n, fun | n => n⟩
theorem cutLays : Go.Proofs.Lays.n103 Tryz.prog cutRen := {
  mixed := by kernel_rfl
  f103 := Tryz.func13.trans (congrArg some (by kernel_rfl))
  f206 := Tryz.func54.trans (congrArg some (by kernel_rfl))
  f210 := Tryz.func24.trans (congrArg some (by kernel_rfl))
  t3 := Tryz.underlying3
  a3 := Tryz.isAgg3
  z3 := Tryz.sizeOf3
  v3 := Tryz.zeroValue3
  t4 := Tryz.underlying4
  a4 := Tryz.isAgg4
  z4 := Tryz.sizeOf4
  v4 := Tryz.zeroValue4
  t9 := Tryz.underlying9
  a9 := Tryz.isAgg9
  z9 := Tryz.sizeOf9
  v9 := Tryz.zeroValue9
  t24 := Tryz.underlying41
  a24 := Tryz.isAgg41
  z24 := Tryz.sizeOf41
  v24 := Tryz.zeroValue41 }
def repRen : Go.Shelf.Ren := ⟨fun | 155 => 15 | 154 => 27 | 138 => 56 | 165 => 57 | 143 => 58 | 166 => 59 | 197 => 60 | 169 => 61 | 195 => 81 | 218 => 82 | 240 => 83 | 241 => 84 | 219 => 85 | 260 => 86 | 276 => 95 | 277 => 96 | 217 => 97 | 225 => 98 | 224 => 99 | 267 => 100 | 266 => 103 | 314 => 104 | n => n, fun | 9 => 9 | 3 => 3 | 4 => 4 | 72 => 81 | 0 => 0 | 76 => 85 | 105 => 87 | 21 => 21 | 5 => 5 | 70 => 78 | 20 => 20 | 37 => 79 | 75 => 84 | 127 => 110 | 164 => 115 | 46 => 119 | 119 => 120 | 139 => 123 | 138 => 122 | 146 => 127 | 51 => 126 | 80 => 89 | n => n, fun | 1 => 5 | 3 => 6 | 4 => 7 | n => n⟩
theorem repLays : Go.Proofs.Lays.n155 Tryz.prog repRen := {
  mixed := by kernel_rfl
  f138 := Tryz.func56.trans (congrArg some (by kernel_rfl))
  f143 := Tryz.func58.trans (congrArg some (by kernel_rfl))
  f154 := Tryz.func27.trans (congrArg some (by kernel_rfl))
  f155 := Tryz.func15.trans (congrArg some (by kernel_rfl))
  f165 := Tryz.func57.trans (congrArg some (by kernel_rfl))
  f166 := Tryz.func59.trans (congrArg some (by kernel_rfl))
  f169 := Tryz.func61.trans (congrArg some (by kernel_rfl))
  f195 := Tryz.func81.trans (congrArg some (by kernel_rfl))
  f197 := Tryz.func60.trans (congrArg some (by kernel_rfl))
  f217 := Tryz.func97.trans (congrArg some (by kernel_rfl))
  f218 := Tryz.func82.trans (congrArg some (by kernel_rfl))
  f219 := Tryz.func85.trans (congrArg some (by kernel_rfl))
  f224 := Tryz.func99.trans (congrArg some (by kernel_rfl))
  f225 := Tryz.func98.trans (congrArg some (by kernel_rfl))
  f240 := Tryz.func83.trans (congrArg some (by kernel_rfl))
  f241 := Tryz.func84.trans (congrArg some (by kernel_rfl))
  f260 := Tryz.func86.trans (congrArg some (by kernel_rfl))
  f266 := Tryz.func103.trans (congrArg some (by kernel_rfl))
  f267 := Tryz.func100.trans (congrArg some (by kernel_rfl))
  f276 := Tryz.func95.trans (congrArg some (by kernel_rfl))
  f277 := Tryz.func96.trans (congrArg some (by kernel_rfl))
  f314 := Tryz.func104.trans (congrArg some (by kernel_rfl))
  t0 := Tryz.underlying0
  a0 := Tryz.isAgg0
  z0 := Tryz.sizeOf0
  v0 := Tryz.zeroValue0
  t3 := Tryz.underlying3
  a3 := Tryz.isAgg3
  z3 := Tryz.sizeOf3
  v3 := Tryz.zeroValue3
  t4 := Tryz.underlying4
  a4 := Tryz.isAgg4
  z4 := Tryz.sizeOf4
  v4 := Tryz.zeroValue4
  t5 := Tryz.underlying5
  a5 := Tryz.isAgg5
  z5 := Tryz.sizeOf5
  v5 := Tryz.zeroValue5
  t9 := Tryz.underlying9
  a9 := Tryz.isAgg9
  z9 := Tryz.sizeOf9
  v9 := Tryz.zeroValue9
  t20 := Tryz.underlying20
  a20 := Tryz.isAgg20
  z20 := Tryz.sizeOf20
  v20 := Tryz.zeroValue20
  t21 := Tryz.underlying21
  a21 := Tryz.isAgg21
  z21 := Tryz.sizeOf21
  v21 := Tryz.zeroValue21
  t37 := Tryz.underlying79
  a37 := Tryz.isAgg79
  z37 := Tryz.sizeOf79
  v37 := Tryz.zeroValue79
  t46 := Tryz.underlying119
  a46 := Tryz.isAgg119
  z46 := Tryz.sizeOf119
  v46 := Tryz.zeroValue119
  t51 := Tryz.underlying126
  a51 := Tryz.isAgg126
  z51 := Tryz.sizeOf126
  v51 := Tryz.zeroValue126
  t70 := Tryz.underlying78
  a70 := Tryz.isAgg78
  z70 := Tryz.sizeOf78
  v70 := Tryz.zeroValue78
  t72 := Tryz.underlying81
  a72 := Tryz.isAgg81
  z72 := Tryz.sizeOf81
  v72 := Tryz.zeroValue81
  t75 := Tryz.underlying84
  a75 := Tryz.isAgg84
  z75 := Tryz.sizeOf84
  v75 := Tryz.zeroValue84
  t76 := Tryz.underlying85
  a76 := Tryz.isAgg85
  z76 := Tryz.sizeOf85
  v76 := Tryz.zeroValue85
  t105 := Tryz.underlying87
  a105 := Tryz.isAgg87
  z105 := Tryz.sizeOf87
  v105 := Tryz.zeroValue87
  t119 := Tryz.underlying120
  a119 := Tryz.isAgg120
  z119 := Tryz.sizeOf120
  t127 := Tryz.underlying110
  a127 := Tryz.isAgg110
  z127 := Tryz.sizeOf110
  v127 := Tryz.zeroValue110
  t138 := Tryz.underlying122
  a138 := Tryz.isAgg122
  z138 := Tryz.sizeOf122
  v138 := Tryz.zeroValue122
  t139 := Tryz.underlying123
  a139 := Tryz.isAgg123
  z139 := Tryz.sizeOf123
  v139 := Tryz.zeroValue123
  t146 := Tryz.underlying127
  a146 := Tryz.isAgg127
  z146 := Tryz.sizeOf127
  v146 := Tryz.zeroValue127
  t164 := Tryz.underlying115
  a164 := Tryz.isAgg115
  z164 := Tryz.sizeOf115
  v164 := Tryz.zeroValue115
  g1 := by kernel_rfl
  g3 := by kernel_rfl
  g4 := by kernel_rfl }
theorem repExtra : Builder.Extra Tryz.prog repRen := {
  sizeBuilder := by kernel_rfl
  liesBuilder := by kernel_rfl
  t5 := Tryz.underlying5
  a5 := Tryz.isAgg5
  z5 := Tryz.sizeOf5
  v5 := Tryz.zeroValue5
  infoByte := by kernel_rfl
  cellsByte := by kernel_rfl
  sizeByte := by kernel_rfl
  neB5 := by decide }

theorem strings_CutPrefix (s p : ByteArray) (w : World) :
    Calls Tryz.prog 13 #[.string s, .string p] w fun e w' => e = .returned (.tuple #[.string ⟨(Lib.trimPrefix s.data.toList p.data.toList).toArray⟩, .bool (Lib.hasPrefix s.data.toList p.data.toList)]) ∧ w' = w := Any.strings_CutPrefix cutLays s p w
theorem strings_ReplaceAll (s old new : ByteArray) (m : Int) (w : World)
    (hs : s.size < 4294967281) (hm : w.cell? ⟨5, 0, none⟩ = some (.int .i64 m)) (h1 : 1 ≤ old.size) (hlen : s.size + Lib.countB s old * new.size ≤ 140737488355328) :
    Calls Tryz.prog 15 #[.string s, .string old, .string new] w fun e w' => e = .returned (.string ⟨(Lib.replaceAll s.data.toList old.data.toList new.data.toList).toArray⟩) ∧ Below w.heap.size w w' := Any.strings_ReplaceAll repLays repExtra s old new m w hs hm h1 hlen

/-! ### The library's variable MaxLen holds some number -/

def Gm (m : Int) (g : Nat) : V := bif Nat.beq g 5 then .pp (iV m) else Gl g
theorem Gm_at (m : Int) : Gm m 5 = .pp (iV m) := rfl
theorem envG_m {m : Int} {S : Nat → Prop} {w : World} (h : EnvG (Gm m) S w) : EnvG Gl S w := fun g => by
  cases hg : Nat.beq g 5 with
  | true =>
    have := Nat.eq_of_beq_eq_true hg
    subst this
    show VR S w .und noK _
    trivial
  | false =>
    have := h g
    unfold Gm at this
    rw [hg] at this
    exact this
theorem gmC {f : FuncId} {F : List V → T (V × List Blk)} (m : Int) (h : PureC Tryz.prog Gl f F) : PureC Tryz.prog (Gm m) f F :=
  ⟨h.1, fun vs cs S w v h' h1 h2 h3 h4 => h.2 vs cs S w v h' h1 (envG_m h2) h3 h4⟩
theorem env_max {W : World} (hE : EnvG Gl (Live W) W) (hsh : W.ShapedOpen Tryz.prog) : ∃ m, EnvG (Gm m) (Live W) W := by
  obtain ⟨m, hm⟩ := cell_of_shapedOpen_int (P := Tryz.prog) (g := 5) (t := 3) (zero := #[.int .i64 0]) (k := .i64) hsh (of_decide_eq_true (by kernel_rfl)) (by kernel_rfl) rfl (by kernel_rfl) (by kernel_rfl) Tryz.underlying3
  refine ⟨m, fun g => ?_⟩
  cases hg : Nat.beq g 5 with
  | true =>
    have := Nat.eq_of_beq_eq_true hg
    subst this
    refine ⟨5, 0, .int .i64 m, rfl, rfl, fun j v hj => ?_⟩
    have hj : [Value.int .i64 m][j]? = some v := hj
    cases j with
    | zero =>
      simp only [List.getElem?_cons_zero, Option.some.injEq] at hj
      subst hj
      exact ⟨World.block_lt_of_cell? _ _ hm, hm⟩
    | succ j => simp at hj
  | false =>
    have := hE g
    unfold Gm
    rw [hg]
    exact this

theorem ext_below {S : Nat → Prop} {w w' : World} (h : Below w.heap.size w w') : Ext noK S [] w noK S [] w' :=
  Ext.ofNil h.os h.tape h.output h.size (fun b hb _ => h.block b hb) (fun i b hb => by rw [ownB_nil] at hb; (cases hb)) (fun _ hb => .inl hb) (fun _ hb => hb) fun _ _ hb => by cases hb

def cutS (p s : List UInt8) : List UInt8 := (cutR p s).1
def cutB (p s : List UInt8) : Bool := (cutR p s).2
def cutT : List V → T (V × List Blk)
  | [.str s, .str p] => out (.tup [.str (cutS p s), bV (cutB p s)])
  | _ => .fail
theorem pCut : PureC Tryz.prog Gl 13 cutT := by
  refine ⟨⟨Tryz.f13, Tryz.func13, by decide, by kernel_rfl⟩, fun vs cs S w v h' hS hE hv he => ?_⟩
  unfold cutT at he
  split at he
  · rename_i s p
    have := sem_leaf he
    simp only [Prod.mk.injEq] at this
    obtain ⟨rfl, rfl⟩ := this
    obtain ⟨c, l, rfl, q1, c2, l2, rfl, q2, q3⟩ := hv
    have q3 : l2 = [] := q3
    subst q3
    have q1 : c = .string ⟨s.toArray⟩ := q1
    subst q1
    have q2 : c2 = .string ⟨p.toArray⟩ := q2
    subst q2
    refine ⟨fun i b hb => by simp at hb, (strings_CutPrefix ⟨s.toArray⟩ ⟨p.toArray⟩ w).mono ?_⟩
    rintro e w' ⟨he, rfl⟩
    have hs := cut_spec p s
    rw [Prod.ext_iff] at hs
    have he : e = .returned (.tuple #[.string ⟨(Lib.trimPrefix s p).toArray⟩, .bool (Lib.hasPrefix s p)]) := he
    rw [show Lib.trimPrefix s p = (cutR p s).1 from hs.1, show Lib.hasPrefix s p = (cutR p s).2 from hs.2] at he
    exact ⟨_, noK, S, he, Good.empty hS, ⟨_, rfl, _, _, rfl, rfl, _, _, rfl, rfl, rfl⟩, Ext.refl _ _ _ _⟩
  · cases he

def repOK (s o r : List UInt8) : Bool := seq o [43] && (seq r [32] && Nat.ble s.length 262144)
def repT : List V → T (V × List Blk)
  | [.str s, .str o, .str r] => .br (repOK s o r) (out (.str (unp s))) .fail
  | _ => .fail
theorem pRep (m : Int) : PureC Tryz.prog (Gm m) 15 repT := by
  refine ⟨⟨Tryz.f15, Tryz.func15, by decide, by kernel_rfl⟩, fun vs cs S w v h' hS hE hv he => ?_⟩
  unfold repT at he
  split at he
  · rename_i s o r
    obtain ⟨hk, hq⟩ := sem_br_fail he
    have := sem_leaf hq
    simp only [Prod.mk.injEq] at this
    obtain ⟨rfl, rfl⟩ := this
    simp only [repOK, Bool.and_eq_true] at hk
    obtain ⟨h1, h2, h3⟩ := hk
    have h1 : o = [43] := by simpa [seq] using h1
    have h2 : r = [32] := by simpa [seq] using h2
    have h3 : s.length ≤ 262144 := Nat.le_of_ble_eq_true h3
    subst h1
    subst h2
    obtain ⟨c, l, rfl, q1, c2, l2, rfl, q2, c3, l3, rfl, q3, q4⟩ := hv
    have q4 : l3 = [] := q4
    subst q4
    have q1 : c = .string ⟨s.toArray⟩ := q1
    subst q1
    have q2 : c2 = .string ⟨[(43 : UInt8)].toArray⟩ := q2
    subst q2
    have q3 : c3 = .string ⟨[(32 : UInt8)].toArray⟩ := q3
    subst q3
    obtain ⟨b, of, cv, e1, e2, e3⟩ := hE 5
    simp only [Value.pointer.injEq, Option.some.injEq, Addr.mk.injEq] at e1
    obtain ⟨rfl, rfl, _⟩ := e1
    have e2 : cv = .int .i64 m := e2
    subst e2
    have hcell : w.cell? ⟨5, 0, none⟩ = some (.int .i64 m) := (e3 0 (.int .i64 m) rfl).2
    have hcount : Lib.countB ⟨s.toArray⟩ ⟨[(43 : UInt8)].toArray⟩ ≤ s.length := countFrom_le _ _
    have hsz : (⟨s.toArray⟩ : ByteArray).size = s.length := by simp [ByteArray.size]
    refine ⟨fun i b hb => by simp at hb, (strings_ReplaceAll ⟨s.toArray⟩ ⟨[(43 : UInt8)].toArray⟩ ⟨[(32 : UInt8)].toArray⟩ m w (by rw [hsz]; omega) hcell (by decide) (by
      rw [hsz, show (⟨[(32 : UInt8)].toArray⟩ : ByteArray).size = 1 from rfl]
      omega)).mono ?_⟩
    rintro e w' ⟨he, hb⟩
    have he : e = .returned (.string ⟨(Lib.replaceAll s [43] [32]).toArray⟩) := he
    rw [replaceAll_plus] at he
    exact ⟨_, noK, S, he, Good.empty (fun k hk => Nat.lt_of_lt_of_le (hS k hk) hb.size), rfl, ext_below hb⟩
  · cases he


end Go.Proofs.YtkcbdemfmjciiaaGreatDoor.Fa

