/-
  Regions: in the order of the text, and in whatever order the model draws. Conditions: the table of types is the program's; callees do what the evaluator is told.
-/
import Derived.Test.YtkcbdemfmjciiaaGreatDoorSyL
import Derived.Orders
namespace Go.Sy

structure Rel (Γ : Cx0) (κ : Nat → Option Value) (S : Nat → Prop) (st : St) (a : Act) (w : World) : Prop where
  good : Good κ S st.h w
  env : EnvOK Γ S w
  tmps : VRs S w st.t κ a.tmps.toList
  defers : a.defers = []

section
variable {P : Program} {τ : List Ty} (hτ : TabOK P τ) {Γ : Cx0} {S : Nat → Prop} {w : World} {κ : Nat → Option Value} {st : St} {a : Act} {o : Oper}
  {K : Act → World → Prop} {Q : Exit → Act → World → Prop}

theorem EnvOK.ext {κ' : Nat → Option Value} {S' : Nat → Prop} {h h' : List Blk} {w' : World} (hE : EnvOK Γ S w) (hg : Good κ S h w) (e : Ext κ S h w κ' S' h' w') : EnvOK Γ S' w' :=
  fun g => VR.mono (e.pers hg) _ _ _ _ (fun _ _ h => h) (hE g)

theorem put_tmps {κ : Nat → Option Value} {d : Option Tmp} {v : V} {c : Value} (ht : VRs S w st.t κ a.tmps.toList) (hv : VR S w v κ c) : VRs S w (put st d v).t κ (a.put d c).tmps.toList := by
  cases d with
  | none => exact ht
  | some d =>
    simp only [put, Act.put, Array.toList_setIfInBounds]
    exact ht.set d hv

theorem put_h (st : St) (d : Option Tmp) (v : V) : (put st d v).h = st.h := by cases d <;> rfl

theorem put_defers (a : Act) (d : Option Tmp) (c : Value) : (a.put d c).defers = a.defers := by cases d <;> rfl

theorem guard_ok {α : Type} {ops : Array Oper} {run skip : T α} {x : α} (ht : VRs S w st.t κ a.tmps.toList) (h : (guardV ops st o run skip).sem = some x) :
    (Region.wanted o (yielded ops a.tmps) = true ∧ run.sem = some x) ∨ (Region.wanted o (yielded ops a.tmps) = false ∧ skip.sem = some x) := by
  unfold guardV at h
  split at h
  · rename_i hg
    exact .inl ⟨by simp [Region.wanted, hg], h⟩
  · rename_i j want hg
    split at h
    · rename_i oj hj
      split at h
      · rename_i d hd
        have hy : ∀ c, (nth st.t d = .und → False) → a.tmps.getD d undef = c → a.tmps[d]? = some c := by
          intro c hu hc
          have hlen := ht.length
          rcases Nat.lt_or_ge d a.tmps.size with hl | hl
          · rw [Array.getElem?_eq_getElem hl]
            rw [← hc]
            simp [Array.getD, hl]
          · exfalso
            apply hu
            rw [nth_eq, List.getElem?_eq_none (by rw [← hlen]; simpa using hl)]
            rfl
        have hn := ht.nth d undef
        have hgd : a.tmps.toList.getD d undef = a.tmps.getD d undef := by simp
        rw [hgd] at hn
        split at h
        · rename_i b hb
          rw [hb] at hn
          have hyd : yielded ops a.tmps j = some b := by
            have := hy (.bool b) (by rw [hb]; simp) (VR_val hn)
            simp [yielded, hj, hd, this]
          have hw : Region.wanted o (yielded ops a.tmps) = (b == want) := by
            simp [Region.wanted, hg, hyd]
          rw [hw]
          cases want <;> cases b <;> first | exact .inl ⟨rfl, h⟩ | exact .inr ⟨rfl, h⟩
        · rename_i vs hb
          rw [hb] at hn
          have hyd : yielded ops a.tmps j = none := by
            have := hy _ (by rw [hb]; simp) (VR_val hn)
            simp [yielded, hj, hd, this]
          exact .inr ⟨by simp [Region.wanted, hg, hyd], h⟩
        · cases h
      · cases h
    · cases h

/-- What is asked of the way on: whatever world and names mean what the evaluator says. -/
def Way (Γ : Cx0) (κ : Nat → Option Value) (S : Nat → Prop) (h : List Blk) (w : World) (st' : St) (K : Act → World → Prop) : Prop :=
  ∀ κ' S' a' w', Rel Γ κ' S' st' a' w' → Ext κ S h w κ' S' st'.h w' → K a' w'

theorem Way.ext {κ' : Nat → Option Value} {S' : Nat → Prop} {h h' : List Blk} {w' : World} {st' : St} (hw : Way Γ κ S h w st' K) (e : Ext κ S h w κ' S' h' w') : Way Γ κ' S' h' w' st' K :=
  fun κ'' S'' a'' w'' hr e' => hw κ'' S'' a'' w'' hr (e.trans e')

include hτ in
theorem runOps_ok (hΓ : CallOK P Γ) (ops : Array Oper) : ∀ (n k : Nat) (st st' : St) (κ : Nat → Option Value) (S : Nat → Prop) (a : Act) (w : World), k + n = ops.size → Rel Γ κ S st a w →
    (runOps τ Γ ops (ops.toList.drop k) st).sem = some st' → Way Γ κ S st.h w st' (fun a' w' => Q .normal a' w') → wpOps P ops Q (List.range' k n) a w
  | 0, k, st, st', κ, S, a, w, hk, hr, h, hw => by
    rw [List.drop_eq_nil_of_le (by simp; omega)] at h
    have := sem_leaf h
    subst this
    exact hw κ S a w hr (Ext.refl _ _ _ _)
  | n + 1, k, st, st', κ, S, a, w, hk, hr, h, hw => by
    have hlt : k < ops.size := by omega
    have hd : ops.toList.drop k = ops[k] :: ops.toList.drop (k + 1) := by
      rw [List.drop_eq_getElem_cons (by simpa using hlt)]
      simp
    rw [hd] at h
    simp only [runOps] at h
    obtain ⟨st1, h1, h2⟩ := sem_bind_some h
    simp only [List.range'_succ, wpOps, Array.getElem?_eq_getElem hlt]
    unfold runOp at h1
    rcases guard_ok hr.tmps h1 with ⟨hwant, hrun⟩ | ⟨hwant, hskip⟩
    · rw [if_pos hwant]
      left
      obtain ⟨⟨v, st2⟩, h3, h4⟩ := sem_bind_some hrun
      have h4 := sem_leaf h4
      refine step_ok (P := P) hτ hΓ hr.good hr.env hr.tmps h3 ?_
      intro κ' S' c w' q1 q2 q3 q4
      refine runOps_ok hΓ ops n (k + 1) st1 st' κ' S' _ w' (by omega) ?_ h2 ?_
      · subst h4
        exact ⟨by rw [put_h]; exact q1, hr.env.ext hr.good q4, put_tmps q2 q3, by rw [put_defers]; exact hr.defers⟩
      · subst h4
        rw [put_h]
        exact hw.ext q4
    · rw [if_neg (by rw [hwant]; simp)]
      have h4 := sem_leaf hskip
      refine runOps_ok hΓ ops n (k + 1) st1 st' κ S _ w (by omega) ?_ h2 ?_
      · subst h4
        exact ⟨by rw [put_h]; exact hr.good, hr.env, put_tmps hr.tmps rfl, by rw [put_defers]; exact hr.defers⟩
      · subst h4
        rw [put_h]
        exact hw

include hτ in
theorem region_ok (hΓ : CallOK P Γ) {id : Nat} {ops : Array Oper} {st' : St} (hr : Rel Γ κ S st a w) (h : (runOps τ Γ ops ops.toList st).sem = some st')
    (hw : Way Γ κ S st.h w st' (fun a' w' => Q .normal a' w')) : (Code.region id ops false).wp P Q a w := by
  refine wp_region ?_
  have := runOps_ok (P := P) (Q := Q) hτ hΓ ops ops.size 0 st st' κ S a w (by omega) hr (by simpa using h) hw
  rwa [List.range_eq_range']

end
end Go.Sy

