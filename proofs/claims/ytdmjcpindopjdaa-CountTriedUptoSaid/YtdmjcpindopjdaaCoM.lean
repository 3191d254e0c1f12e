/-
  Layer 3 in this seat: the edge of a number, the number of an edge. No conditions.
-/
import Derived.Test.YtdmjcpindopjdaaCoE
import Derived.Test.YtdmjcpindopjdaaCoB
namespace Go.Proofs.Ytdmjcpindopjdaa.Co
open Go.Sy

/-- The edge of a number below 112. -/
def madeE (c : Nat) : E6 :=
  if c < 6 then ⟨c / 2 + 1, c % 2 == 0, false, if c / 2 == 1 then 1 else 2, if c / 2 == 0 then 1 else 2, 0⟩
  else if c < 102 then ⟨if (c - 6) / 8 == 0 then 4 else 5, false, decide (4 ≤ (c - 6) % 8), 1 + ((c - 6) % 4 / 2 : Nat), 1 + ((c - 6) % 2 : Nat), ((c - 6) / 8 : Nat)⟩
  else if c < 106 then ⟨6, false, decide (2 ≤ c - 102), 1, 1 + ((c - 102) % 2 : Nat), 0⟩
  else if c < 108 then ⟨7, false, c - 102 == 5, 1, 2, 0⟩
  else ⟨8, false, decide (8 ≤ c - 102), 1, 1 + ((c - 102) % 2 : Nat), 0⟩

def inR (n : Int) : Bool := decide (0 ≤ n) && decide (n < 112)

theorem inR_some {n : Int} (h : inR n = true) : ∃ k : Nat, n = (k : Int) ∧ k < 112 := by
  simp [inR] at h
  exact ⟨n.toNat, by omega, by omega⟩

theorem inR_none {n : Int} (h : inR n = false) : n < 0 ∨ 0 ≤ n ∧ 112 ≤ n := by
  simp [inR] at h
  omega

/-! ### Functions of one code -/

noncomputable def cx0 : Cx := cxOf Gl [] []
noncomputable def F46a : List V → T (V × List Blk) := fun vs => finF (evalF tab cx0 Try.f46 vs [])
theorem p46a : PureC Try.prog Gl 46 F46a := pureC_body tabOK mixed Try.func46 (by kernel_rfl) (by kernel_rfl) (cx_ok AllPure.nil _)
noncomputable def cx0r : Cx := cxOf Gl t60 []

theorem made46 : (List.range 112).map (fun k : Nat => (finF (evalF tab cx0 Try.f46 [iV (Int.ofNat k)] [])).sem) = (List.range 112).map fun k => some (eV (madeE k), []) := by kernel_rfl
theorem of48 : (List.range 112).map (fun k : Nat => (finF (evalF tab cx0r Try.f48 [iV (Int.ofNat k)] [])).sem) = (List.range 112).map fun k => some (.tup [eV (madeE k), iV 0], []) := by kernel_rfl
theorem of48a (n : Int) : (finF (evalF tab cx0r Try.f48 [iV n] [])).path [true, true, true, true] = some ([ilt n 0, ilt n 0, ilt n 0, true], (.tup [eV zeroE, iV 30], [])) := by kernel_rfl
theorem of48b (n : Int) : (finF (evalF tab cx0r Try.f48 [iV n] [])).path [false, false, false, true] = some ([ilt n 0, ilt n 0, ilt n 0, ile 112 n], (.tup [eV zeroE, iV 30], [])) := by kernel_rfl

/-- A function of a number below 112. -/
def codeT (f : Nat → V) : List V → T (V × List Blk)
  | [v] => match gI v with
    | some n => .br (inR n) (.leaf (f n.toNat, [])) .fail
    | none => .fail
  | _ => .fail

theorem codeT_some {f : Nat → V} {vs : List V} {r : V × List Blk} (h : (codeT f vs).sem = some r) : ∃ k : Nat, k < 112 ∧ vs = [iV (Int.ofNat k)] ∧ r = (f k, []) := by
  unfold codeT at h
  split at h
  · split at h
    · rename_i v n hn
      obtain ⟨h1, h2⟩ := sem_br_fail h
      obtain ⟨k, rfl, hk⟩ := inR_some h1
      exact ⟨k, hk, by rw [gI_some hn]; rfl, by rw [sem_leaf h2]; rfl⟩
    · cases h
  · cases h

theorem p46 : PureC Try.prog Gl 46 (codeT fun k => eV (madeE k)) := by
  refine p46a.congr fun vs r h => ?_
  obtain ⟨k, hk, rfl, rfl⟩ := codeT_some h
  exact all_below made46 k hk

/-- The edge of a number, and whether there is one. -/
def ofT : List V → T (V × List Blk)
  | [v] => match gI v with
    | some n => .br (inR n) (.leaf (.tup [eV (madeE n.toNat), iV 0], [])) (.leaf (.tup [eV zeroE, iV 30], []))
    | none => .fail
  | _ => .fail

theorem ofT_some {vs : List V} {r : V × List Blk} (h : (ofT vs).sem = some r) : ∃ n, vs = [iV n] ∧ ((∃ k : Nat, n = Int.ofNat k ∧ k < 112 ∧ r = (.tup [eV (madeE k), iV 0], [])) ∨ ((n < 0 ∨ 0 ≤ n ∧ 112 ≤ n) ∧ r = (.tup [eV zeroE, iV 30], []))) := by
  unfold ofT at h
  split at h
  · split at h
    · rename_i v n hn
      refine ⟨n, by rw [gI_some hn], ?_⟩
      cases hi : inR n with
      | true =>
        obtain ⟨k, rfl, hk⟩ := inR_some hi
        simp only [T.sem, hi, sel, cond_true, Option.some.injEq] at h
        exact .inl ⟨k, rfl, hk, h.symm⟩
      | false =>
        simp only [T.sem, hi, sel, cond_false, Option.some.injEq] at h
        exact .inr ⟨inR_none hi, h.symm⟩
    · cases h
  · cases h

theorem p48 : PureC Try.prog Gl 48 ofT := by
  refine PureC.congr (pureC_body tabOK mixed Try.func48 (by kernel_rfl) (by kernel_rfl) (cx_ok t60_ok [])) fun vs r h => ?_
  obtain ⟨n, rfl, ⟨k, rfl, hk, rfl⟩ | ⟨hn, rfl⟩⟩ := ofT_some h
  · exact all_below of48 k hk
  · rcases hn with hn | ⟨h0, hn⟩
    · exact sem_of_path (of48a n) (by rw [lt_true hn])
    · exact sem_of_path (of48b n) (by rw [lt_false h0, le_true hn])

noncomputable def tbM1 : List (Nat × (List V → T (V × List Blk))) := [(46, codeT fun k => eV (madeE k)), (48, ofT)]
theorem tbM1_ok : AllPure Try.prog Gl tbM1 := .cons p46 <| .cons p48 .nil
noncomputable def cx1 : Cx := cxOf Gl tbM1 [(0, ⟨[], 1, [], 1, 113⟩)]

/-! ### The number of an edge -/

/-- The first of m numbers from k on that has the edge. -/
def findE (e : E6) : Nat → Nat → Option Nat
  | 0, _ => none
  | m + 1, k => match eqE (madeE k) e with
    | true => some k
    | false => findE e m (Nat.succ k)

def codeN (e : E6) : Int := match findE e 112 0 with
  | some k => Int.ofNat k
  | none => 0
def codeF (e : E6) : Int := match findE e 112 0 with
  | some _ => 0
  | none => 30

/-- The same, as the evaluator writes it. -/
def codeS (e : E6) : Nat → Nat → Option (V × List Blk)
  | 0, _ => some (.tup [iV 0, iV 30], [])
  | m + 1, k => sel (eqE (madeE k) e) (some (.tup [iV (Int.ofNat k), iV 0], [])) (codeS e m (Nat.succ k))
def codeS' (e : E6) : Nat → Nat → Option (V × List Blk)
  | 0, _ => some (.tup [iV 0, iV 30], [])
  | m + 1, k => sel (eqE e (madeE k)) (some (.tup [iV (Int.ofNat k), iV 0], [])) (codeS' e m (Nat.succ k))

theorem codeS_eq (e : E6) : ∀ m k, codeS e m k = match findE e m k with
    | some j => some (.tup [iV (Int.ofNat j), iV 0], [])
    | none => some (.tup [iV 0, iV 30], [])
  | 0, k => rfl
  | m + 1, k => by
    simp only [codeS, findE]
    cases h : eqE (madeE k) e with
    | true => rfl
    | false => exact codeS_eq e m (Nat.succ k)

theorem codeS'_eq (e : E6) : ∀ m k, codeS' e m k = codeS e m k
  | 0, _ => rfl
  | m + 1, k => by
    simp only [codeS, codeS', codeS'_eq e m, eqE_comm e]

theorem codeS_all (e : E6) : codeS e 112 0 = some (.tup [iV (codeN e), iV (codeF e)], []) := by
  rw [codeS_eq]
  unfold codeN codeF
  cases findE e 112 0 <;> rfl

theorem code31 (e : E6) : (finF (evalF tab cx1 Try.f31 [eV e] [])).sem = codeS e 112 0 := by kernel_rfl
theorem code57 (e : E6) : (finF (evalF tab cx1 Try.f57 [eV e] [])).sem = codeS' e 112 0 := by kernel_rfl

/-- A function of an edge. -/
def edgeT (f : E6 → V) : List V → T (V × List Blk)
  | [v] => match toE v with
    | some e => .leaf (f e, [])
    | none => .fail
  | _ => .fail

theorem edgeT_some {f : E6 → V} {vs : List V} {r : V × List Blk} (h : (edgeT f vs).sem = some r) : ∃ e, vs = [eV e] ∧ r = (f e, []) := by
  unfold edgeT at h
  split at h
  · split at h
    · rename_i v e hn
      exact ⟨e, by rw [toE_some hn], sem_leaf h⟩
    · cases h
  · cases h

def codeP (e : E6) : V := .tup [iV (codeN e), iV (codeF e)]

theorem p31 : PureC Try.prog Gl 31 (edgeT codeP) := by
  refine PureC.congr (pureC_body tabOK mixed Try.func31 (by kernel_rfl) (by kernel_rfl) (Γ := cx1) (cx_ok tbM1_ok _)) fun vs r h => ?_
  obtain ⟨e, rfl, rfl⟩ := edgeT_some h
  exact (code31 e).trans (codeS_all e)

theorem p57 : PureC Try.prog Gl 57 (edgeT codeP) := by
  refine PureC.congr (pureC_body tabOK mixed Try.func57 (by kernel_rfl) (by kernel_rfl) (Γ := cx1) (cx_ok tbM1_ok _)) fun vs r h => ?_
  obtain ⟨e, rfl, rfl⟩ := edgeT_some h
  exact (code57 e).trans ((codeS'_eq e 112 0).trans (codeS_all e))

noncomputable def tbM2 : List (Nat × (List V → T (V × List Blk))) := (31, edgeT codeP) :: (57, edgeT codeP) :: tbM1
theorem tbM2_ok : AllPure Try.prog Gl tbM2 := .cons p31 <| .cons p57 tbM1_ok
noncomputable def cx2 : Cx := cxOf Gl tbM2 []

theorem check47 (e : E6) : (finF (evalF tab cx2 Try.f47 [eV e] [])).sem = some (iV (codeF e), []) := by kernel_rfl

theorem p47 : PureC Try.prog Gl 47 (edgeT fun e => iV (codeF e)) := by
  refine PureC.congr (pureC_body tabOK mixed Try.func47 (by kernel_rfl) (by kernel_rfl) (Γ := cx2) (cx_ok tbM2_ok _)) fun vs r h => ?_
  obtain ⟨e, rfl, rfl⟩ := edgeT_some h
  exact check47 e

theorem findE_spec (e : E6) : ∀ m k j, findE e m k = some j → k ≤ j ∧ j < k + m ∧ madeE j = e
  | 0, k, j, h => by cases h
  | m + 1, k, j, h => by
    simp only [findE] at h
    split at h
    · rename_i he
      simp only [Option.some.injEq] at h
      subst h
      exact ⟨Nat.le_refl _, by omega, (eqE_iff _ _).1 he⟩
    · obtain ⟨h1, h2, h3⟩ := findE_spec e m _ j h
      exact ⟨by omega, by omega, h3⟩

theorem codeF_cases (e : E6) : (∃ k : Nat, k < 112 ∧ codeF e = 0 ∧ codeN e = Int.ofNat k ∧ madeE k = e) ∨ (codeF e = 30 ∧ codeN e = 0 ∧ ∀ k, k < 112 → madeE k ≠ e) := by
  unfold codeF codeN
  cases h : findE e 112 0 with
  | some k =>
    obtain ⟨_, h2, h3⟩ := findE_spec e 112 0 k h
    exact .inl ⟨k, by omega, rfl, rfl, h3⟩
  | none =>
    refine .inr ⟨rfl, rfl, ?_⟩
    have : ∀ m k, findE e m k = none → ∀ j, k ≤ j → j < k + m → madeE j ≠ e := by
      intro m
      induction m with
      | zero => intro k _ j h1 h2; omega
      | succ m ih =>
        intro k hn j h1 h2
        simp only [findE] at hn
        split at hn
        · cases hn
        · rename_i hne
          by_cases hj : j = k
          · subst hj
            intro he
            rw [(eqE_iff _ _).2 he] at hne
            cases hne
          · exact ih _ hn j (by omega) (by omega)
    exact fun k hk => this 112 0 h k (by omega) (by omega)

/-- The ends of an edge that may be. -/
theorem made_ends : (List.range 112).map (fun k => (decide ((madeE k).src = 1) || decide ((madeE k).src = 2)) && (decide ((madeE k).dst = 1) || decide ((madeE k).dst = 2))) = (List.range 112).map fun _ => true := by kernel_rfl

theorem ends_ok {e : E6} (h : codeF e = 0) : (e.src = 1 ∨ e.src = 2) ∧ (e.dst = 1 ∨ e.dst = 2) := by
  rcases codeF_cases e with ⟨k, hk, _, _, rfl⟩ | ⟨h1, _⟩
  · have := all_below made_ends k hk
    simpa using this
  · rw [h1] at h; cases h

theorem codeN_inj {a b : E6} (ha : codeF a = 0) (hb : codeF b = 0) (h : codeN a = codeN b) : a = b := by
  rcases codeF_cases a with ⟨k, _, _, h1, h2⟩ | ⟨h1, _⟩
  · rcases codeF_cases b with ⟨j, _, _, g1, g2⟩ | ⟨g1, _⟩
    · rw [h1, g1] at h
      have := Int.ofNat.inj h
      subst this
      rw [← h2, ← g2]
    · rw [g1] at hb; cases hb
  · rw [h1] at ha; cases ha

end Go.Proofs.Ytdmjcpindopjdaa.Co
