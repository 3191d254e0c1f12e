/-
  Own maps of numbers by numbers: made, looked up, written. Conditions: the table is the program's.
-/
import Derived.Test.YtkcbdemfmjciiaaGreatDoorSyK
import Derived.Maps.Views
import Derived.Maps.OwnSet
import Derived.Carry
namespace Go.Sy

section
variable {P : Program} {τ : List Ty} (hτ : TabOK P τ) {Γ : Cx0} {S : Nat → Prop} {w : World} {κ : Nat → Option Value} {st : St} {a : Act} {o : Oper}
  {K : Act → World → Prop} {Q : Exit → Act → World → Prop} {r : V × St}

theorem mapT_owns (hP : P = theP) {t k e : TypeId} (ht : P.underlying t = some (.map k e)) {b n : Nat} {ob : Obj} {get : Int → Int} (hb : w.heap[b]? = some ob) (h : MapT t n get ob) :
    ∃ D : DataW Unit, w.ownsMap P k (plainElem P e) b n D ∧ ∀ x, (Lit.int .i64 x).wf = true → D.atKey (.int .i64 x) (.lit (.int .i64 0)) = .lit (.int .i64 (get x)) := by
  subst hP
  unfold MapT at h
  rw [ht] at h
  obtain ⟨es, clock, rfl, F, hs, hg⟩ := h
  exact ⟨_, ⟨es, clock, hb, F, hs, rfl⟩, hg⟩

theorem owns_mapT (hP : P = theP) {t k e : TypeId} (ht : P.underlying t = some (.map k e)) {b n : Nat} {get : Int → Int} {D : DataW Unit} (h : w.ownsMap P k (plainElem P e) b n D)
    (hg : ∀ x, (Lit.int .i64 x).wf = true → D.atKey (.int .i64 x) (.lit (.int .i64 0)) = .lit (.int .i64 (get x))) : ∃ ob, w.heap[b]? = some ob ∧ MapT t n get ob := by
  subst hP
  obtain ⟨es, clock, hb, F, hs, rfl⟩ := h
  refine ⟨_, hb, ?_⟩
  unfold MapT
  rw [ht]
  exact ⟨es, clock, rfl, F, hs, hg⟩

theorem fitI_wf {x : Int} (h : fitI x = true) : (Lit.int .i64 x).wf = true := by
  simp only [fitI, Bool.and_eq_true, decide_eq_true_eq] at h
  simp [Lit.wf, IntKind.min, IntKind.max, IntKind.bits, IntKind.signed]
  omega

include hτ in
theorem zeroI_run {e : TypeId} (h : zeroI τ e = true) (w : World) : (zeroValue e).run P w = .ok (.int .i64 0) w := by
  unfold zeroI at h
  split at h
  · rename_i te hte
    obtain ⟨i, _, hi, _, _, _, _, hz, _⟩ := hτ.info hte
    split at h
    · rename_i hz0
      rw [hz0] at hz
      cases hi0 : i.zero with
      | none => rw [hi0] at hz; cases hz
      | some z =>
        rw [hi0] at hz
        have hv : VR (fun _ => False) w (ofValue z) noK z := VR_ofValue z
        rw [← show V.val (.int .i64 (.ofNat 0)) = ofValue z from hz] at hv
        have : z = .int .i64 0 := hv
        subst this
        simp only [zeroValue, typeInfo, Sem.run_bind, run_program, Result.andThen_ok, hi, hi0, Sem.run_pure]
    · cases h
  · cases h

include hτ in
theorem lookup_ok (hg : Good κ S st.h w) {t : TypeId} {m x : V} {cm cx : Value} (hm : VR S w m κ cm) (hx : VR S w x κ cx)
    (hrun : (execOp a.eval o).run P w = ((Instr.lookup t cm cx false).run P w).andThen fun v w' => .ok (.value v) w') {v : V}
    (h : (lookupV τ st t m x).sem = some v) : Same P a o S w κ v := by
  unfold lookupV at h
  split at h
  · rename_i ty hty
    obtain ⟨_, d, _, hd, hk, _⟩ := hτ.info hty
    split at h
    · rename_i e id key hkk
      rw [hkk] at hk
      obtain ⟨k, rfl, h1, h2⟩ := kOf_imap hk.symm
      split at h
      · rename_i t' n get hh hz
        split at h
        · rename_i hbt
          have hbt := Nat.eq_of_beq_eq_true hbt
          subst hbt
          obtain ⟨hf, h⟩ := sem_br_fail h
          obtain ⟨b, ob, q1, q2, q3⟩ := hg.blk id _ hh
          obtain ⟨hm1, _⟩ := hm
          rw [q1] at hm1
          simp at hm1
          subst hm1
          obtain ⟨D, own, hat⟩ := mapT_owns hτ.same hd q2 q3
          have hx : cx = .int .i64 key := hx
          subst hx
          obtain ⟨c, hc, hat2, _⟩ := own.lookup_int (Maps.int_keyed h1) hd h2 (zeroI_run hτ hz w) (Maps.keyOf_int_mk h1 (fitI_wf hf))
          rw [hat key (fitI_wf hf)] at hat2
          have e : get key = c := by simpa using hat2
          rw [sem_leaf h, e]
          exact ⟨_, by rw [hrun, hc]; rfl, rfl⟩
        · cases h
      · cases h
    · cases h
  · cases h

include hτ in
theorem makeMap_ok (hg : Good κ S st.h w) (ht : VRs S w st.t κ a.tmps.toList) {t : TypeId}
    (hrun : (execOp a.eval o).run P w = ((Instr.makeMap t none).run P w).andThen fun v w' => .ok (.value v) w')
    (h : (makeMapV τ st t).sem = some r) (hp : Post a o κ S st w K r) : o.wp P a w K Q := by
  unfold makeMapV at h
  split at h
  · rename_i ty hty
    obtain ⟨_, d, _, hd, hk, _⟩ := hτ.info hty
    split at h
    · rename_i e hkk
      rw [hkk] at hk
      obtain ⟨k, rfl, h1, h2⟩ := kOf_imap hk.symm
      have own := World.ownsMap_made (H := Unit) w P k (plainElem P e)
      obtain ⟨ob, q1, q2⟩ := owns_mapT (get := fun _ => 0) hτ.same hd own fun x _ => rfl
      have hrun' : (execOp a.eval o).run P w = .ok (.value (.map (some w.heap.size))) (w.alloc (.map #[] 0)) := by
        rw [hrun]
        rfl
      refine ok_new (v := V.ref) hg ht hrun' (alloc_heap w _) (by simp) rfl rfl rfl ?_ (.inr rfl) ⟨by simp [addK], .inr ⟨_, rfl⟩⟩ h hp
      exact ⟨w.heap.size, ob, rfl, q1, q2⟩
    · cases h
  · cases h

include hτ in
theorem mapPut_ok (hg : Good κ S st.h w) (ht : VRs S w st.t κ a.tmps.toList) {t : TypeId} {m x y : V} {cm cx cy : Value} (hm : VR S w m κ cm) (hx : VR S w x κ cx) (hy : VR S w y κ cy)
    (hrun : (execOp a.eval o).run P w = ((Instr.mapUpdate t cm cx cy).run P w).andThen fun _ w' => .ok .skip w')
    (h : (mapPutV τ st t m x y).sem = some r) (hp : Post a o κ S st w K r) : o.wp P a w K Q := by
  unfold mapPutV at h
  split at h
  · rename_i ty hty
    obtain ⟨_, d, _, hd, hk, _⟩ := hτ.info hty
    split at h
    · rename_i e id key val hkk
      rw [hkk] at hk
      obtain ⟨k, rfl, h1, h2⟩ := kOf_imap hk.symm
      split at h
      · rename_i t' n get hh
        split at h
        · rename_i hbt
          have hbt := Nat.eq_of_beq_eq_true hbt
          subst hbt
          obtain ⟨hn, h⟩ := sem_br_fail h
          obtain ⟨hf, h⟩ := sem_br_fail h
          obtain ⟨hf2, h⟩ := sem_br_fail h
          have hn : n < 4611686018427387904 := of_decide_eq_true hn
          have hr := sem_leaf h
          subst hr
          obtain ⟨b, ob, q1, q2, q3⟩ := hg.blk id _ hh
          obtain ⟨hm1, _⟩ := hm
          rw [q1] at hm1
          simp at hm1
          subst hm1
          obtain ⟨D, own, hat⟩ := mapT_owns hτ.same hd q2 q3
          have hx : cx = .int .i64 key := hx
          subst hx
          have hy : cy = .int .i64 val := hy
          subst hy
          obtain ⟨w', hc, own', hgr⟩ := own.store (Maps.int_keyed h1) hd (by unfold maxLen; omega) (Maps.keyOf_int_mk h1 (fitI_wf hf)) (plainElem_int h2 (fitI_wf hf2))
          have hmap : Maps.IsMap D := by
            obtain ⟨_, _, _, _, _, e⟩ := own
            exact ⟨_, e⟩
          obtain ⟨ob', p1, p2⟩ := owns_mapT (get := putMap get key val) hτ.same hd own' fun x hx => by
            unfold putMap sel ieq
            by_cases hxk : x = key
            · subst hxk
              rw [Maps.atKey_put_same hmap (show WideAt.IsKeyLit (.int .i64 x) from trivial)]
              simp
            · rw [Maps.atKey_put_other (by intro h; simp at h; exact hxk h), hat x hx]
              have : (x == key) = false := by simpa using hxk
              rw [this]
              rfl
          obtain ⟨_, _, _, _, hsb, hw'⟩ := hgr
          have hidb : blockOf (κ id) = some b := by rw [q1]; rfl
          have hgown : ownB κ st.h id = some b := by rw [ownB_of hh (by simp)]; exact hidb
          have hwk : ∀ k, k ≠ b → w'.heap[k]? = w.heap[k]? := fun k hk => by rw [hw']; exact ChangeMaps.heap_setBlock_other hsb _ hk
          have hsz : w'.heap.size = w.heap.size := by rw [hw']; simp [ChangeMaps.setBlock]
          have hS : ∀ b', S b' → S b' ∧ w'.heap[b']? = w.heap[b']? := fun b' hb => ⟨hb, hwk b' fun eb => (hg.out b' hb).2 id (by rw [eb]; exact hgown)⟩
          have hup := Good.upd (w' := w') (b' := .imap t (nadd n 1) (putMap get key val)) hg hh (by simp) (by simp) hidb hwk hsz ⟨b, ob', q1, p1, p2⟩
          unfold Oper.wp
          rw [hrun, hc]
          exact hp κ S undef w' hup.1 (VR.mono_go hS _ _ _ _ (fun _ _ h => h) ht) rfl (Ext.upd hg hgown hwk hsz (by rw [hw']; rfl) (by rw [hw']; rfl) (by rw [hw']; rfl) hup.2 (fun i hi => List.getElem?_set_ne (Ne.symm hi)) (fun _ _ _ _ => by rw [hh]; simp) (set_fix hh (fun _ _ _ _ h => by cases h)))
        · cases h
      · cases h
    · cases h
  · cases h

end
end Go.Sy

