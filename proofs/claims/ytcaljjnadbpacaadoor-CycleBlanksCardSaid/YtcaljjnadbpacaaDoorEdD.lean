/-
  Layer 3: texts, architectures, what must come. No conditions.
-/
import Derived.Test.YtcaljjnadbpacaaDoorEdC
namespace Go.Proofs.YtcaljjnadbpacaaDoor.Ed
open Go.Sy

noncomputable def tb5 : List (Nat × (List V → T (V × List Blk))) := (26, edgeT nameP) :: (27, edgeT nameP) :: (30, ofT) :: tb3
theorem tb5_ok : AllPure Tryd.prog Gl tb5 := .cons p26 <| .cons p27 <| .cons p30 tb3_ok
noncomputable def cx5 : Cx := cxOf Gl tb5 [(0, ⟨[], 1, [], 1, 113⟩)]

/-- The first of m numbers from k on that has the name. -/
def findS (s : List UInt8) : Nat → Nat → Option Nat
  | 0, _ => none
  | m + 1, k => match seq (nameS k) s with
    | true => some k
    | false => findS s m (Nat.succ k)

def parseE (s : List UInt8) : E6 := match findS s 112 0 with
  | some k => madeE k
  | none => zeroE
def parseF (s : List UInt8) : Int := match findS s 112 0 with
  | some _ => 0
  | none => 30

def parseS (s : List UInt8) : Nat → Nat → Option (V × List Blk)
  | 0, _ => some (.tup [eV zeroE, iV 30], [])
  | m + 1, k => sel (seq (nameS k) s) (some (.tup [eV (madeE k), iV 0], [])) (parseS s m (Nat.succ k))

theorem parseS_eq (s : List UInt8) : ∀ m k, parseS s m k = match findS s m k with
    | some j => some (.tup [eV (madeE j), iV 0], [])
    | none => some (.tup [eV zeroE, iV 30], [])
  | 0, k => rfl
  | m + 1, k => by
    simp only [parseS, findS]
    cases h : seq (nameS k) s with
    | true => rfl
    | false => exact parseS_eq s m (Nat.succ k)

theorem parseS_all (s : List UInt8) : parseS s 112 0 = some (.tup [eV (parseE s), iV (parseF s)], []) := by
  rw [parseS_eq]
  unfold parseE parseF
  cases findS s 112 0 <;> rfl

theorem parse21 (s : List UInt8) : (finF (evalF tab cx5 Tryd.f21 [.str s] [])).sem = parseS s 112 0 := by kernel_rfl
theorem parse22 (s : List UInt8) : (finF (evalF tab cx5 Tryd.f22 [.str s] [])).sem = parseS s 112 0 := by kernel_rfl

/-- A function of a text. -/
def textT (f : List UInt8 → V) : List V → T (V × List Blk)
  | [v] => match gS v with
    | some e => .leaf (f e, [])
    | none => .fail
  | _ => .fail

theorem textT_some {f : List UInt8 → V} {vs : List V} {r : V × List Blk} (h : (textT f vs).sem = some r) : ∃ e, vs = [.str e] ∧ r = (f e, []) := by
  unfold textT at h
  split at h
  · split at h
    · rename_i v e hn
      exact ⟨e, by rw [gS_some hn], sem_leaf h⟩
    · cases h
  · cases h

def parseP (s : List UInt8) : V := .tup [eV (parseE s), iV (parseF s)]

theorem p21 : PureC Tryd.prog Gl 21 (textT parseP) := by
  refine PureC.congr (pureC_body tabOK mixed Tryd.func21 (by kernel_rfl) (by kernel_rfl) (Γ := cx5) (cx_ok tb5_ok _)) fun vs r h => ?_
  obtain ⟨e, rfl, rfl⟩ := textT_some h
  exact (parse21 e).trans (parseS_all e)
theorem p22 : PureC Tryd.prog Gl 22 (textT parseP) := by
  refine PureC.congr (pureC_body tabOK mixed Tryd.func22 (by kernel_rfl) (by kernel_rfl) (Γ := cx5) (cx_ok tb5_ok _)) fun vs r h => ?_
  obtain ⟨e, rfl, rfl⟩ := textT_some h
  exact (parse22 e).trans (parseS_all e)

noncomputable def tb6 : List (Nat × (List V → T (V × List Blk))) := (21, textT parseP) :: (22, textT parseP) :: tb5
theorem tb6_ok : AllPure Tryd.prog Gl tb6 := .cons p21 <| .cons p22 tb5_ok
noncomputable def cx6 : Cx := cxOf Gl tb6 []

/-- A function of nothing. -/
def unitT (f : V) : List V → T (V × List Blk)
  | [] => .leaf (f, [])
  | _ => .fail

theorem awake23 : (finF (evalF tab cx6 Tryd.f23 [] [])).sem = some (bV true, []) := by kernel_rfl

theorem p23 : PureC Tryd.prog Gl 23 (unitT (bV true)) := by
  refine PureC.congr (pureC_body tabOK mixed Tryd.func23 (by kernel_rfl) (by kernel_rfl) (Γ := cx6) (cx_ok tb6_ok _)) fun vs r h => ?_
  unfold unitT at h
  split at h
  · rw [sem_leaf h]; exact awake23
  · cases h

noncomputable def tb7 : List (Nat × (List V → T (V × List Blk))) := (23, unitT (bV true)) :: tb6
theorem tb7_ok : AllPure Tryd.prog Gl tb7 := .cons p23 tb6_ok
noncomputable def cx7 : Cx := cxOf Gl tb7 []

/-! ### The laws EdgeParses, EdgeCodes, EdgeOf -/

theorem seq_self (a : List UInt8) : seq a a = true := by simp [seq]
theorem ieq_self (a : Int) : ieq a a = true := by simp [ieq]
theorem beqB_self (a : Bool) : beqB a a = true := by simp [beqB]

theorem law3 (s : List UInt8) : (finF (evalF tab cx7 Tryd.f3 [.str s] [])).sem = some (bV true, []) := by
  have h : (finF (evalF tab cx7 Tryd.f3 [.str s] [])).path (List.replicate 6 true) = some ([eqE (parseE s) (parseE s), eqE (parseE s) (parseE s), eqE (parseE s) (parseE s), eqE (parseE s) (parseE s), ieq (parseF s) (parseF s), ieq (parseF s) (parseF s)], (bV true, [])) := by kernel_rfl
  exact sem_of_path h (by simp only [eqE_self, ieq_self]; rfl)

theorem law4 (e : E6) : (finF (evalF tab cx7 Tryd.f4 [eV e] [])).sem = some (bV true, []) := by
  have h : (finF (evalF tab cx7 Tryd.f4 [eV e] [])).path (List.replicate 18 true) = some ([ieq (codeF e) (codeF e), ieq (codeF e) (codeF e), ieq (codeF e) (codeF e), ieq (codeF e) (codeF e),
    ieq (codeN e) (codeN e), ieq (codeN e) (codeN e), ieq (codeN e) (codeN e), ieq (codeN e) (codeN e), ieq (codeF e) (codeF e), ieq (codeF e) (codeF e), ieq (codeF e) (codeF e), ieq (codeF e) (codeF e),
    seq (nameF e) (nameF e), seq (nameF e) (nameF e), seq (nameF e) (nameF e), seq (nameF e) (nameF e), ieq (codeF e) (codeF e), ieq (codeF e) (codeF e)], (bV true, [])) := by kernel_rfl
  exact sem_of_path h (by simp only [seq_self, ieq_self]; rfl)

theorem law5 (n : Int) : (finF (evalF tab cx7 Tryd.f5 [iV n] [])).sem = some (bV true, []) := by
  cases hn : inR n with
  | true =>
    have h : (finF (evalF tab cx7 Tryd.f5 [iV n] [])).path (List.replicate 8 true) = some ([inR n, inR n, eqE (madeE n.toNat) (madeE n.toNat), eqE (madeE n.toNat) (madeE n.toNat), eqE (madeE n.toNat) (madeE n.toNat), eqE (madeE n.toNat) (madeE n.toNat),
      ieq 0 0, ieq 0 0], (bV true, [])) := by kernel_rfl
    exact sem_of_path h (by simp only [eqE_self, ieq_self, hn]; rfl)
  | false =>
    have h : (finF (evalF tab cx7 Tryd.f5 [iV n] [])).path (false :: false :: List.replicate 6 true) = some ([inR n, inR n, eqE zeroE zeroE, eqE zeroE zeroE, eqE zeroE zeroE, eqE zeroE zeroE, ieq 30 30, ieq 30 30], (bV true, [])) := by kernel_rfl
    exact sem_of_path h (by simp only [eqE_self, ieq_self, hn]; rfl)

theorem p3 : PureC Tryd.prog Gl 3 (textT fun _ => bV true) := by
  refine PureC.congr (pureC_body tabOK mixed Tryd.func3 (by kernel_rfl) (by kernel_rfl) (Γ := cx7) (cx_ok tb7_ok _)) fun vs r h => ?_
  obtain ⟨e, rfl, rfl⟩ := textT_some h
  exact law3 e
theorem p4 : PureC Tryd.prog Gl 4 (edgeT fun _ => bV true) := by
  refine PureC.congr (pureC_body tabOK mixed Tryd.func4 (by kernel_rfl) (by kernel_rfl) (Γ := cx7) (cx_ok tb7_ok _)) fun vs r h => ?_
  obtain ⟨e, rfl, rfl⟩ := edgeT_some h
  exact law4 e

/-- A function of an integer. -/
def intT (f : Int → V) : List V → T (V × List Blk)
  | [v] => match gI v with
    | some e => .leaf (f e, [])
    | none => .fail
  | _ => .fail

theorem intT_some {f : Int → V} {vs : List V} {r : V × List Blk} (h : (intT f vs).sem = some r) : ∃ e, vs = [iV e] ∧ r = (f e, []) := by
  unfold intT at h
  split at h
  · split at h
    · rename_i v e hn
      exact ⟨e, by rw [gI_some hn], sem_leaf h⟩
    · cases h
  · cases h

theorem p5 : PureC Tryd.prog Gl 5 (intT fun _ => bV true) := by
  refine PureC.congr (pureC_body tabOK mixed Tryd.func5 (by kernel_rfl) (by kernel_rfl) (Γ := cx7) (cx_ok tb7_ok _)) fun vs r h => ?_
  obtain ⟨e, rfl, rfl⟩ := intT_some h
  exact law5 e

end Go.Proofs.YtcaljjnadbpacaaDoor.Ed
