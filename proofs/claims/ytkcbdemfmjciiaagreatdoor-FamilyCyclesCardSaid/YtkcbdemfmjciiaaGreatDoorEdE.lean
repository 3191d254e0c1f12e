/-
  Layer 3: architectures: what is known, what is legal, all edges of one. No conditions.
-/
import Derived.Test.YtkcbdemfmjciiaaGreatDoorEdD
namespace Go.Proofs.YtkcbdemfmjciiaaGreatDoor.Ed
open Go.Sy

/-! ### Functions by their arguments' forms -/

def ap1 {α : Type} (d : V → Option α) (F : α → T (V × List Blk)) : List V → T (V × List Blk)
  | [v] => match d v with
    | some a => F a
    | none => .fail
  | _ => .fail

def ap2 {α β : Type} (d : V → Option α) (e : V → Option β) (F : α → β → T (V × List Blk)) : List V → T (V × List Blk)
  | [v, u] => match d v, e u with
    | some a, some b => F a b
    | _, _ => .fail
  | _ => .fail

theorem ap1_some {α : Type} {d : V → Option α} {c : α → V} (hd : ∀ v a, d v = some a → v = c a) {F : α → T (V × List Blk)} {vs : List V} {r : V × List Blk} (h : (ap1 d F vs).sem = some r) :
    ∃ a, vs = [c a] ∧ (F a).sem = some r := by
  unfold ap1 at h
  split at h
  · split at h
    · rename_i v _ a ha
      exact ⟨a, by rw [hd v a ha], h⟩
    · cases h
  · cases h

theorem ap2_some {α β : Type} {d : V → Option α} {e : V → Option β} {c : α → V} {c' : β → V} (hd : ∀ v a, d v = some a → v = c a) (he : ∀ v b, e v = some b → v = c' b) {F : α → β → T (V × List Blk)}
    {vs : List V} {r : V × List Blk} (h : (ap2 d e F vs).sem = some r) : ∃ a b, vs = [c a, c' b] ∧ (F a b).sem = some r := by
  unfold ap2 at h
  split at h
  · split at h
    · rename_i v u _ _ a b ha hb
      exact ⟨a, b, by rw [hd v a ha, he u b hb], h⟩
    · cases h
  · cases h

theorem gI_ok : ∀ v a, gI v = some a → v = iV a := fun _ _ h => gI_some h
theorem toE_ok : ∀ v a, toE v = some a → v = eV a := fun _ _ h => toE_some h

def out (v : V) : T (V × List Blk) := .leaf (v, [])

/-! ### What is known, what is legal -/

def knownB (a : Int) : Bool := bor (ieq a 1) (ieq a 2)
def legalB (a n : Int) : Bool := bor (ilt n 14) (beqB (ilt n 22) (ieq a 1))
def hasB (a : Int) (e : E6) : Bool :=
  bor (ieq e.kind 1) (bor (ieq e.kind 2) (bor (ieq e.kind 3) (bor (ieq e.kind 4) (sel (ieq e.kind 5) (beqB (ieq e.fence 1) (ieq a 1)) (ieq a 2)))))

theorem known77 (a : Int) : (finF (evalF tab cx6 Tryz.f91 [iV a] [])).sem = some (bV (knownB a), []) := by
  have h1 : (finF (evalF tab cx6 Tryz.f91 [iV a] [])).path [true, true, true] = some ([ieq a 1, ieq a 1, ieq a 1], (bV true, [])) := by kernel_rfl
  have h2 : (finF (evalF tab cx6 Tryz.f91 [iV a] [])).path [false, false, false] = some ([ieq a 1, ieq a 1, ieq a 1], (bV (ieq a 2), [])) := by kernel_rfl
  unfold knownB
  cases h : ieq a 1 with
  | true => exact sem_of_path h1 (by rw [h])
  | false => exact sem_of_path h2 (by rw [h])
theorem known79 (a : Int) : (finF (evalF tab cx6 Tryz.f68 [iV a] [])).sem = some (bV (knownB a), []) := by
  have h1 : (finF (evalF tab cx6 Tryz.f68 [iV a] [])).path [true, true, true] = some ([ieq a 1, ieq a 1, ieq a 1], (bV true, [])) := by kernel_rfl
  have h2 : (finF (evalF tab cx6 Tryz.f68 [iV a] [])).path [false, false, false] = some ([ieq a 1, ieq a 1, ieq a 1], (bV (ieq a 2), [])) := by kernel_rfl
  unfold knownB
  cases h : ieq a 1 with
  | true => exact sem_of_path h1 (by rw [h])
  | false => exact sem_of_path h2 (by rw [h])

theorem legal78 (a n : Int) : (finF (evalF tab cx6 Tryz.f92 [iV a, iV n] [])).sem = some (bV (legalB a n), []) := by
  have h1 : (finF (evalF tab cx6 Tryz.f92 [iV a, iV n] [])).path [true] = some ([ilt n 14], (bV true, [])) := by kernel_rfl
  have h2 : (finF (evalF tab cx6 Tryz.f92 [iV a, iV n] [])).path [false] = some ([ilt n 14], (bV (beqB (ilt n 22) (ieq a 1)), [])) := by kernel_rfl
  unfold legalB
  cases h : ilt n 14 with
  | true => exact sem_of_path h1 (by rw [h])
  | false => exact sem_of_path h2 (by rw [h])

theorem has80 (a : Int) (e : E6) : (finF (evalF tab cx6 Tryz.f69 [iV a, eV e] [])).sem = some (bV (hasB a e), []) := by
  have h1 : (finF (evalF tab cx6 Tryz.f69 [iV a, eV e] [])).path [true, true] = some ([ieq e.kind 1, ieq e.kind 1], (bV true, [])) := by kernel_rfl
  have h2 : (finF (evalF tab cx6 Tryz.f69 [iV a, eV e] [])).path [false, true, true] = some ([ieq e.kind 1, ieq e.kind 2, ieq e.kind 2], (bV true, [])) := by kernel_rfl
  have h3 : (finF (evalF tab cx6 Tryz.f69 [iV a, eV e] [])).path [false, false, true, true] = some ([ieq e.kind 1, ieq e.kind 2, ieq e.kind 3, ieq e.kind 3], (bV true, [])) := by kernel_rfl
  have h4 : (finF (evalF tab cx6 Tryz.f69 [iV a, eV e] [])).path [false, false, false, true] = some ([ieq e.kind 1, ieq e.kind 2, ieq e.kind 3, ieq e.kind 4], (bV true, [])) := by kernel_rfl
  have h5 : (finF (evalF tab cx6 Tryz.f69 [iV a, eV e] [])).path [false, false, false, false, true] = some ([ieq e.kind 1, ieq e.kind 2, ieq e.kind 3, ieq e.kind 4, ieq e.kind 5], (bV (beqB (ieq e.fence 1) (ieq a 1)), [])) := by kernel_rfl
  have h6 : (finF (evalF tab cx6 Tryz.f69 [iV a, eV e] [])).path [false, false, false, false, false] = some ([ieq e.kind 1, ieq e.kind 2, ieq e.kind 3, ieq e.kind 4, ieq e.kind 5], (bV (ieq a 2), [])) := by kernel_rfl
  unfold hasB
  cases c1 : ieq e.kind 1 with
  | true => exact sem_of_path h1 (by rw [c1])
  | false =>
  cases c2 : ieq e.kind 2 with
  | true => exact sem_of_path h2 (by rw [c1, c2])
  | false =>
  cases c3 : ieq e.kind 3 with
  | true => exact sem_of_path h3 (by rw [c1, c2, c3])
  | false =>
  cases c4 : ieq e.kind 4 with
  | true => exact sem_of_path h4 (by rw [c1, c2, c3, c4])
  | false =>
  cases c5 : ieq e.kind 5 with
  | true => exact sem_of_path h5 (by rw [c1, c2, c3, c4, c5])
  | false => exact sem_of_path h6 (by rw [c1, c2, c3, c4, c5])

theorem p77 : PureC Tryz.prog Gl 91 (ap1 gI fun a => out (bV (knownB a))) := by
  refine PureC.congr (pureC_body tabOK mixed Tryz.func91 (by kernel_rfl) (by kernel_rfl) (Γ := cx6) (cx_ok tb6_ok _)) fun vs r h => ?_
  obtain ⟨a, rfl, h⟩ := ap1_some gI_ok h
  rw [sem_leaf h]
  exact known77 a
theorem p79 : PureC Tryz.prog Gl 68 (ap1 gI fun a => out (bV (knownB a))) := by
  refine PureC.congr (pureC_body tabOK mixed Tryz.func68 (by kernel_rfl) (by kernel_rfl) (Γ := cx6) (cx_ok tb6_ok _)) fun vs r h => ?_
  obtain ⟨a, rfl, h⟩ := ap1_some gI_ok h
  rw [sem_leaf h]
  exact known79 a
theorem p78 : PureC Tryz.prog Gl 92 (ap2 gI gI fun a n => out (bV (legalB a n))) := by
  refine PureC.congr (pureC_body tabOK mixed Tryz.func92 (by kernel_rfl) (by kernel_rfl) (Γ := cx6) (cx_ok tb6_ok _)) fun vs r h => ?_
  obtain ⟨a, n, rfl, h⟩ := ap2_some gI_ok gI_ok h
  rw [sem_leaf h]
  exact legal78 a n
theorem p80 : PureC Tryz.prog Gl 69 (ap2 gI toE fun a e => out (bV (hasB a e))) := by
  refine PureC.congr (pureC_body tabOK mixed Tryz.func69 (by kernel_rfl) (by kernel_rfl) (Γ := cx6) (cx_ok tb6_ok _)) fun vs r h => ?_
  obtain ⟨a, e, rfl, h⟩ := ap2_some gI_ok toE_ok h
  rw [sem_leaf h]
  exact has80 a e

theorem has_legal (k : Nat) (hk : k < 112) (a : Int) (ha : knownB a = true) : hasB a (madeE k) = legalB a (Int.ofNat k) := by
  have h1 : (List.range 112).map (fun k : Nat => hasB 1 (madeE k)) = (List.range 112).map fun k : Nat => legalB 1 (Int.ofNat k) := by kernel_rfl
  have h2 : (List.range 112).map (fun k : Nat => hasB 2 (madeE k)) = (List.range 112).map fun k : Nat => legalB 2 (Int.ofNat k) := by kernel_rfl
  simp only [knownB, bor, ieq, Bool.or_eq_true, beq_iff_eq] at ha
  rcases ha with rfl | rfl
  · exact all_below h1 k hk
  · exact all_below h2 k hk

/-! ### Legal -/

noncomputable def tb8 : List (Nat × (List V → T (V × List Blk))) := (91, ap1 gI fun a => out (bV (knownB a))) :: (68, ap1 gI fun a => out (bV (knownB a))) :: (92, ap2 gI gI fun a n => out (bV (legalB a n))) :: (69, ap2 gI toE fun a e => out (bV (hasB a e))) :: tb6
theorem tb8_ok : AllPure Tryz.prog Gl tb8 := .cons p77 <| .cons p79 <| .cons p78 <| .cons p80 tb6_ok
noncomputable def cx8 : Cx := cxOf Gl tb8 [(0, ⟨[], 2, [], 2, 113⟩)]

def legR (a : Int) (e : E6) : Bool := sel (bnot (knownB a)) false (sel (bnot (ieq (codeF e) 0)) false (legalB a (codeN e)))
def legF (a : Int) (e : E6) : Int := sel (bnot (knownB a)) 1 (codeF e)
def legP (a : Int) (e : E6) : V := .tup [bV (legR a e), iV (legF a e)]

theorem legal32 (a : Int) (e : E6) : (finF (evalF tab cx8 Tryz.f78 [iV a, eV e] [])).sem = some (legP a e, []) := by
  have h1 : (finF (evalF tab cx8 Tryz.f78 [iV a, eV e] [])).path [true] = some ([bnot (knownB a)], (.tup [bV false, iV 1], [])) := by kernel_rfl
  have h2 : (finF (evalF tab cx8 Tryz.f78 [iV a, eV e] [])).path [false, true] = some ([bnot (knownB a), bnot (ieq (codeF e) 0)], (.tup [bV false, iV (codeF e)], [])) := by kernel_rfl
  have h3 : (finF (evalF tab cx8 Tryz.f78 [iV a, eV e] [])).path [false, false] = some ([bnot (knownB a), bnot (ieq (codeF e) 0)], (.tup [bV (legalB a (codeN e)), iV 0], [])) := by kernel_rfl
  unfold legP legR legF
  cases c1 : bnot (knownB a) with
  | true => exact sem_of_path h1 (by rw [c1])
  | false =>
  cases c2 : bnot (ieq (codeF e) 0) with
  | true => exact sem_of_path h2 (by rw [c1, c2])
  | false =>
    have : codeF e = 0 := by simpa [bnot, ieq] using c2
    rw [this]
    exact sem_of_path h3 (by rw [c1, c2])

theorem codeF_cases (e : E6) : (∃ k : Nat, k < 112 ∧ codeF e = 0 ∧ codeN e = Int.ofNat k ∧ madeE k = e ∧ nameF e = nameS k) ∨ (codeF e = 30 ∧ codeN e = 0 ∧ nameF e = [] ∧ ∀ k, k < 112 → madeE k ≠ e) := by
  unfold codeF codeN nameF
  cases h : findE e 112 0 with
  | some k =>
    obtain ⟨_, h2, h3⟩ := findE_spec e 112 0 k h
    exact .inl ⟨k, by omega, rfl, rfl, h3, rfl⟩
  | none =>
    refine .inr ⟨rfl, rfl, rfl, ?_⟩
    have : ∀ m k, findE e m k = none → ∀ j, k ≤ j → j < k + m → madeE j ≠ e := by
      intro m
      induction m with
      | zero => intro k _ j h1 h2; omega
      | succ m ih =>
        intro k hn j h1 h2
        simp only [findE] at hn
        split at hn
        · cases hn
        · rename_i hne
          by_cases hj : j = k
          · subst hj
            intro he
            rw [(eqE_iff _ _).2 he] at hne
            cases hne
          · exact ih _ hn j (by omega) (by omega)
    exact fun k hk => this 112 0 h k (by omega) (by omega)

theorem legal33 (a : Int) (e : E6) : (finF (evalF tab cx8 Tryz.f31 [iV a, eV e] [])).sem = some (legP a e, []) := by
  have h1 : (finF (evalF tab cx8 Tryz.f31 [iV a, eV e] [])).path [true] = some ([bnot (knownB a)], (.tup [bV false, iV 1], [])) := by kernel_rfl
  have h2 : (finF (evalF tab cx8 Tryz.f31 [iV a, eV e] [])).path [false, true] = some ([bnot (knownB a), bnot (ieq (codeF e) 0)], (.tup [bV false, iV 30], [])) := by kernel_rfl
  have h3 : (finF (evalF tab cx8 Tryz.f31 [iV a, eV e] [])).path [false, false] = some ([bnot (knownB a), bnot (ieq (codeF e) 0)], (.tup [bV (hasB a e), iV 0], [])) := by kernel_rfl
  unfold legP legR legF
  cases c1 : bnot (knownB a) with
  | true => exact sem_of_path h1 (by rw [c1])
  | false =>
  rcases codeF_cases e with ⟨k, hk, hf, hn, he, _⟩ | ⟨hf, _⟩
  · have c2 : bnot (ieq (codeF e) 0) = false := by rw [hf]; rfl
    have ha : knownB a = true := by simpa [bnot] using c1
    rw [c2, hf, hn, ← has_legal k hk a ha, he]
    exact sem_of_path h3 (by rw [c1, c2])
  · have c2 : bnot (ieq (codeF e) 0) = true := by rw [hf]; rfl
    rw [c2, hf]
    exact sem_of_path h2 (by rw [c1, c2])

theorem p32 : PureC Tryz.prog Gl 78 (ap2 gI toE fun a e => out (legP a e)) := by
  refine PureC.congr (pureC_body tabOK mixed Tryz.func78 (by kernel_rfl) (by kernel_rfl) (Γ := cx8) (cx_ok tb8_ok _)) fun vs r h => ?_
  obtain ⟨a, e, rfl, h⟩ := ap2_some gI_ok toE_ok h
  rw [sem_leaf h]
  exact legal32 a e
theorem p33 : PureC Tryz.prog Gl 31 (ap2 gI toE fun a e => out (legP a e)) := by
  refine PureC.congr (pureC_body tabOK mixed Tryz.func31 (by kernel_rfl) (by kernel_rfl) (Γ := cx8) (cx_ok tb8_ok _)) fun vs r h => ?_
  obtain ⟨a, e, rfl, h⟩ := ap2_some gI_ok toE_ok h
  rw [sem_leaf h]
  exact legal33 a e

/-! ### All -/

end Go.Proofs.YtkcbdemfmjciiaaGreatDoor.Ed




