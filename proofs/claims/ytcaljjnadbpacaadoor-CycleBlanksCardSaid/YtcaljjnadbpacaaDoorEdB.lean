/-
  Layer 3: the functions of one edge, number or text: what they answer. No conditions.
-/
import Derived.Test.YtcaljjnadbpacaaDoorEdM
namespace Go.Proofs.YtcaljjnadbpacaaDoor.Ed
open Go.Sy

/-- A function of a number below 112. -/
def codeT (f : Nat → V) : List V → T (V × List Blk)
  | [v] => match gI v with
    | some n => .br (inR n) (.leaf (f n.toNat, [])) .fail
    | none => .fail
  | _ => .fail

theorem codeT_some {f : Nat → V} {vs : List V} {r : V × List Blk} (h : (codeT f vs).sem = some r) : ∃ k : Nat, k < 112 ∧ vs = [iV (Int.ofNat k)] ∧ r = (f k, []) := by
  unfold codeT at h
  split at h
  · split at h
    · rename_i v n hn
      obtain ⟨h1, h2⟩ := sem_br_fail h
      obtain ⟨k, rfl, hk⟩ := inR_some h1
      exact ⟨k, hk, by rw [gI_some hn]; rfl, by rw [sem_leaf h2]; rfl⟩
    · cases h
  · cases h

theorem p71 : PureC Tryd.prog Gl 71 (codeT fun k => eV (madeE k)) := by
  refine p71a.congr fun vs r h => ?_
  obtain ⟨k, hk, rfl, rfl⟩ := codeT_some h
  exact all_below made71 k hk

theorem p70 : PureC Tryd.prog Gl 70 (codeT fun k => .str (nameS k)) := by
  refine p70a.congr fun vs r h => ?_
  obtain ⟨k, hk, rfl, rfl⟩ := codeT_some h
  exact all_below named70 k hk

/-- The edge of a number, and whether there is one. -/
def ofT : List V → T (V × List Blk)
  | [v] => match gI v with
    | some n => .br (inR n) (.leaf (.tup [eV (madeE n.toNat), iV 0], [])) (.leaf (.tup [eV zeroE, iV 30], []))
    | none => .fail
  | _ => .fail

theorem ofT_some {vs : List V} {r : V × List Blk} (h : (ofT vs).sem = some r) : ∃ n, vs = [iV n] ∧ ((∃ k : Nat, n = Int.ofNat k ∧ k < 112 ∧ r = (.tup [eV (madeE k), iV 0], [])) ∨ ((n < 0 ∨ 0 ≤ n ∧ 112 ≤ n) ∧ r = (.tup [eV zeroE, iV 30], []))) := by
  unfold ofT at h
  split at h
  · split at h
    · rename_i v n hn
      refine ⟨n, by rw [gI_some hn], ?_⟩
      cases hi : inR n with
      | true =>
        obtain ⟨k, rfl, hk⟩ := inR_some hi
        simp only [T.sem, hi, sel, cond_true, Option.some.injEq] at h
        exact .inl ⟨k, rfl, hk, h.symm⟩
      | false =>
        simp only [T.sem, hi, sel, cond_false, Option.some.injEq] at h
        exact .inr ⟨inR_none hi, h.symm⟩
    · cases h
  · cases h

theorem lt_true {a b : Int} (h : a < b) : ilt a b = true := by simpa [ilt] using h
theorem lt_false {a b : Int} (h : b ≤ a) : ilt a b = false := by simp [ilt]; omega
theorem le_true {a b : Int} (h : a ≤ b) : ile a b = true := by simpa [ile] using h
theorem le_false {a b : Int} (h : b < a) : ile a b = false := by simp [ile]; omega

theorem p31 : PureC Tryd.prog Gl 31 ofT := by
  refine PureC.congr (pureC_body tabOK mixed Tryd.func31 (by kernel_rfl) (by kernel_rfl) (cx_ok tb0_ok [])) fun vs r h => ?_
  obtain ⟨n, rfl, ⟨k, rfl, hk, rfl⟩ | ⟨hn, rfl⟩⟩ := ofT_some h
  · exact all_below of31 k hk
  · rcases hn with hn | ⟨h0, hn⟩
    · exact sem_of_path (of31a n) (by rw [lt_true hn])
    · exact sem_of_path (of31b n) (by rw [lt_false h0, le_true hn])

noncomputable def tb1 : List (Nat × (List V → T (V × List Blk))) := [(71, codeT fun k => eV (madeE k)), (70, codeT fun k => .str (nameS k)), (31, ofT)]
theorem tb1_ok : AllPure Tryd.prog Gl tb1 := .cons p71 <| .cons p70 <| .cons p31 .nil
noncomputable def cx1 : Cx := cxOf Gl tb1 [(0, ⟨[], 1, [], 1, 113⟩)]

theorem of30 (n : Int) (h : inR n = true) : (finF (evalF tab cx1 Tryd.f30 [iV n] [])).sem = some (.tup [eV (madeE n.toNat), iV 0], []) := by
  have h0 : 0 ≤ n ∧ n < 112 := by simpa [inR] using h
  have : (finF (evalF tab cx1 Tryd.f30 [iV n] [])).path [false, false, false, false, true] = some ([ilt n 0, ilt n 0, ilt n 0, ile 112 n, inR n], (.tup [eV (madeE n.toNat), iV 0], [])) := by kernel_rfl
  exact sem_of_path this (by rw [lt_false h0.1, le_false h0.2, h])
theorem of30a (n : Int) : (finF (evalF tab cx1 Tryd.f30 [iV n] [])).path [true, true, true, true] = some ([ilt n 0, ilt n 0, ilt n 0, true], (.tup [eV zeroE, iV 30], [])) := by kernel_rfl
theorem of30b (n : Int) : (finF (evalF tab cx1 Tryd.f30 [iV n] [])).path [false, false, false, true] = some ([ilt n 0, ilt n 0, ilt n 0, ile 112 n], (.tup [eV zeroE, iV 30], [])) := by kernel_rfl

theorem p30 : PureC Tryd.prog Gl 30 ofT := by
  refine PureC.congr (pureC_body tabOK mixed Tryd.func30 (by kernel_rfl) (by kernel_rfl) (cx_ok tb1_ok [])) fun vs r h => ?_
  obtain ⟨n, rfl, ⟨k, rfl, hk, rfl⟩ | ⟨hn, rfl⟩⟩ := ofT_some h
  · exact of30 _ (by simp [inR]; omega)
  · rcases hn with hn | ⟨h0, hn⟩
    · exact sem_of_path (of30a n) (by rw [lt_true hn])
    · exact sem_of_path (of30b n) (by rw [lt_false h0, le_true hn])

/-! ### The number of an edge -/

/-- The first of m numbers from k on that has the edge. -/
def findE (e : E6) : Nat → Nat → Option Nat
  | 0, _ => none
  | m + 1, k => match eqE (madeE k) e with
    | true => some k
    | false => findE e m (Nat.succ k)

def codeN (e : E6) : Int := match findE e 112 0 with
  | some k => Int.ofNat k
  | none => 0
def codeF (e : E6) : Int := match findE e 112 0 with
  | some _ => 0
  | none => 30

/-- The same, as the evaluator writes it. -/
def codeS (e : E6) : Nat → Nat → Option (V × List Blk)
  | 0, _ => some (.tup [iV 0, iV 30], [])
  | m + 1, k => sel (eqE (madeE k) e) (some (.tup [iV (Int.ofNat k), iV 0], [])) (codeS e m (Nat.succ k))
def codeS' (e : E6) : Nat → Nat → Option (V × List Blk)
  | 0, _ => some (.tup [iV 0, iV 30], [])
  | m + 1, k => sel (eqE e (madeE k)) (some (.tup [iV (Int.ofNat k), iV 0], [])) (codeS' e m (Nat.succ k))

theorem codeS_eq (e : E6) : ∀ m k, codeS e m k = match findE e m k with
    | some j => some (.tup [iV (Int.ofNat j), iV 0], [])
    | none => some (.tup [iV 0, iV 30], [])
  | 0, k => rfl
  | m + 1, k => by
    simp only [codeS, findE]
    cases h : eqE (madeE k) e with
    | true => rfl
    | false => exact codeS_eq e m (Nat.succ k)

theorem codeS'_eq (e : E6) : ∀ m k, codeS' e m k = codeS e m k
  | 0, _ => rfl
  | m + 1, k => by
    simp only [codeS, codeS', codeS'_eq e m, eqE_comm e]

theorem codeS_all (e : E6) : codeS e 112 0 = some (.tup [iV (codeN e), iV (codeF e)], []) := by
  rw [codeS_eq]
  unfold codeN codeF
  cases findE e 112 0 <;> rfl

theorem code24 (e : E6) : (finF (evalF tab cx1 Tryd.f24 [eV e] [])).sem = codeS e 112 0 := by kernel_rfl
theorem code25 (e : E6) : (finF (evalF tab cx1 Tryd.f25 [eV e] [])).sem = codeS' e 112 0 := by kernel_rfl

/-- A function of an edge. -/
def edgeT (f : E6 → V) : List V → T (V × List Blk)
  | [v] => match toE v with
    | some e => .leaf (f e, [])
    | none => .fail
  | _ => .fail

theorem edgeT_some {f : E6 → V} {vs : List V} {r : V × List Blk} (h : (edgeT f vs).sem = some r) : ∃ e, vs = [eV e] ∧ r = (f e, []) := by
  unfold edgeT at h
  split at h
  · split at h
    · rename_i v e hn
      exact ⟨e, by rw [toE_some hn], sem_leaf h⟩
    · cases h
  · cases h

def codeP (e : E6) : V := .tup [iV (codeN e), iV (codeF e)]

theorem p24 : PureC Tryd.prog Gl 24 (edgeT codeP) := by
  refine PureC.congr (pureC_body tabOK mixed Tryd.func24 (by kernel_rfl) (by kernel_rfl) (Γ := cx1) (cx_ok tb1_ok _)) fun vs r h => ?_
  obtain ⟨e, rfl, rfl⟩ := edgeT_some h
  exact (code24 e).trans (codeS_all e)

theorem p25 : PureC Tryd.prog Gl 25 (edgeT codeP) := by
  refine PureC.congr (pureC_body tabOK mixed Tryd.func25 (by kernel_rfl) (by kernel_rfl) (Γ := cx1) (cx_ok tb1_ok _)) fun vs r h => ?_
  obtain ⟨e, rfl, rfl⟩ := edgeT_some h
  exact (code25 e).trans ((codeS'_eq e 112 0).trans (codeS_all e))

end Go.Proofs.YtcaljjnadbpacaaDoor.Ed
