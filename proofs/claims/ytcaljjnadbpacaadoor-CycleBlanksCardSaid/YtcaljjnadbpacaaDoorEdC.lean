/-
  Layer 3: checks, names, texts, architectures. No conditions.
-/
import Derived.Test.YtcaljjnadbpacaaDoorEdB
namespace Go.Proofs.YtcaljjnadbpacaaDoor.Ed
open Go.Sy

noncomputable def tb2 : List (Nat × (List V → T (V × List Blk))) := (24, edgeT codeP) :: (25, edgeT codeP) :: tb1
theorem tb2_ok : AllPure Tryd.prog Gl tb2 := .cons p24 <| .cons p25 tb1_ok
noncomputable def cx2 : Cx := cxOf Gl tb2 []

theorem check28 (e : E6) : (finF (evalF tab cx2 Tryd.f28 [eV e] [])).sem = some (iV (codeF e), []) := by kernel_rfl
theorem check29 (e : E6) : (finF (evalF tab cx2 Tryd.f29 [eV e] [])).sem = some (iV (codeF e), []) := by kernel_rfl

theorem p28 : PureC Tryd.prog Gl 28 (edgeT fun e => iV (codeF e)) := by
  refine PureC.congr (pureC_body tabOK mixed Tryd.func28 (by kernel_rfl) (by kernel_rfl) (Γ := cx2) (cx_ok tb2_ok _)) fun vs r h => ?_
  obtain ⟨e, rfl, rfl⟩ := edgeT_some h
  exact check28 e
theorem p29 : PureC Tryd.prog Gl 29 (edgeT fun e => iV (codeF e)) := by
  refine PureC.congr (pureC_body tabOK mixed Tryd.func29 (by kernel_rfl) (by kernel_rfl) (Γ := cx2) (cx_ok tb2_ok _)) fun vs r h => ?_
  obtain ⟨e, rfl, rfl⟩ := edgeT_some h
  exact check29 e

/-! ### Names -/

theorem findE_spec (e : E6) : ∀ m k j, findE e m k = some j → k ≤ j ∧ j < k + m ∧ madeE j = e
  | 0, k, j, h => by cases h
  | m + 1, k, j, h => by
    simp only [findE] at h
    split at h
    · rename_i he
      simp only [Option.some.injEq] at h
      subst h
      exact ⟨Nat.le_refl _, by omega, (eqE_iff _ _).1 he⟩
    · obtain ⟨h1, h2, h3⟩ := findE_spec e m _ j h
      exact ⟨by omega, by omega, h3⟩

def nameF (e : E6) : List UInt8 := match findE e 112 0 with
  | some k => nameS k
  | none => []
def nameP (e : E6) : V := .tup [.str (nameF e), iV (codeF e)]

noncomputable def tb3 : List (Nat × (List V → T (V × List Blk))) := (28, edgeT fun e => iV (codeF e)) :: (29, edgeT fun e => iV (codeF e)) :: tb2
theorem tb3_ok : AllPure Tryd.prog Gl tb3 := .cons p28 <| .cons p29 tb2_ok

noncomputable def tbn : List (Nat × (List V → T (V × List Blk))) := [(72, fun vs => finF (evalF tab cx0 Tryd.f72 vs [])), (107, fun vs => finF (evalF tab cx0 Tryd.f107 vs []))]
theorem tbn_ok : AllPure Tryd.prog Gl tbn :=
  .cons (pureC_body tabOK mixed Tryd.func72 (by kernel_rfl) (by kernel_rfl) (Γ := cx0) (cx_ok .nil _)) <|
  .cons (pureC_body tabOK mixed Tryd.func107 (by kernel_rfl) (by kernel_rfl) (Γ := cx0) (cx_ok .nil _)) .nil
noncomputable def cxn : Cx := cxOf Gl tbn []
noncomputable def tb4 : List (Nat × (List V → T (V × List Blk))) := (73, fun vs => finF (evalF tab cxn Tryd.f73 vs [])) :: (tbn ++ tb3)
theorem AllPure.append {P : Program} {G : Nat → V} {a b : List (Nat × (List V → T (V × List Blk)))} (ha : AllPure P G a) (hb : AllPure P G b) : AllPure P G (a ++ b) := fun p hp => (List.mem_append.1 hp).elim (ha p) (hb p)
theorem tb4_ok : AllPure Tryd.prog Gl tb4 :=
  .cons (pureC_body tabOK mixed Tryd.func73 (by kernel_rfl) (by kernel_rfl) (Γ := cxn) (cx_ok tbn_ok _)) (AllPure.append tbn_ok tb3_ok)
noncomputable def cx4 : Cx := cxOf Gl tb4 []

theorem name27 : (List.range 112).map (fun k : Nat => (finF (evalF tab cx4 Tryd.f27 [eV (madeE k)] [])).sem) = (List.range 112).map fun k => some (.tup [.str (nameS k), iV 0], []) := by kernel_rfl
theorem name27a (e : E6) : (finF (evalF tab cx4 Tryd.f27 [eV e] [])).path [true] = some ([bnot (ieq (codeF e) 0)], (.tup [.str [], iV 30], [])) := by kernel_rfl
theorem name26a (e : E6) : (finF (evalF tab cx4 Tryd.f26 [eV e] [])).path [true] = some ([bnot (ieq (codeF e) 0)], (.tup [.str [], iV (codeF e)], [])) := by kernel_rfl
theorem name26b (e : E6) : (finF (evalF tab cx4 Tryd.f26 [eV e] [])).path [false, true] = some ([bnot (ieq (codeF e) 0), inR (codeN e)], (.tup [.str (nameS (codeN e).toNat), iV 0], [])) := by kernel_rfl

theorem name26 (e : E6) : (finF (evalF tab cx4 Tryd.f26 [eV e] [])).sem = some (nameP e, []) := by
  unfold nameP nameF
  cases h : findE e 112 0 with
  | none =>
    have hf : codeF e = 30 := by unfold codeF; rw [h]
    exact sem_of_path (name26a e) (by rw [hf]; rfl)
  | some k =>
    have hf : codeF e = 0 := by unfold codeF; rw [h]
    have hn : codeN e = Int.ofNat k := by unfold codeN; rw [h]
    have hk := (findE_spec e 112 0 k h).2.1
    have := sem_of_path (name26b e) (by rw [hf, hn, show inR (Int.ofNat k) = true by simp [inR]; omega]; rfl)
    rw [this, hn, hf]
    rfl

theorem name27b (e : E6) : (finF (evalF tab cx4 Tryd.f27 [eV e] [])).sem = some (nameP e, []) := by
  unfold nameP nameF
  cases h : findE e 112 0 with
  | none =>
    have hf : codeF e = 30 := by unfold codeF; rw [h]
    rw [hf]
    exact sem_of_path (name27a e) (by rw [hf]; rfl)
  | some k =>
    have hf : codeF e = 0 := by unfold codeF; rw [h]
    obtain ⟨_, hk, rfl⟩ := findE_spec e 112 0 k h
    rw [hf]
    exact all_below name27 k (by omega)

theorem p26 : PureC Tryd.prog Gl 26 (edgeT nameP) := by
  refine PureC.congr (pureC_body tabOK mixed Tryd.func26 (by kernel_rfl) (by kernel_rfl) (Γ := cx4) (cx_ok tb4_ok _)) fun vs r h => ?_
  obtain ⟨e, rfl, rfl⟩ := edgeT_some h
  exact name26 e
theorem p27 : PureC Tryd.prog Gl 27 (edgeT nameP) := by
  refine PureC.congr (pureC_body tabOK mixed Tryd.func27 (by kernel_rfl) (by kernel_rfl) (Γ := cx4) (cx_ok tb4_ok _)) fun vs r h => ?_
  obtain ⟨e, rfl, rfl⟩ := edgeT_some h
  exact name27b e

end Go.Proofs.YtcaljjnadbpacaaDoor.Ed
