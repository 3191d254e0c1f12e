/-
  Callees that write a row of the caller's, and callees that append to it: what the caller's own memory is behind them. Conditions: as before.
-/
import Derived.Test.YtkcbdemfmjciiaaGreatDoorSyS
import Derived.ChangeSame
namespace Go.Sy

/-- What a call that writes own memory comes to, told by all of the own memory behind it. -/
def MutOK (P : Program) (G : Nat → V) (f : FuncId) (M : List V → List Blk → T (V × List Blk)) : Prop :=
  ∀ vs cs κ S h w v h', Good κ S h w → EnvG G S w → VRs S w vs κ cs → (M vs h).sem = some (v, h') →
    Gives P f cs w fun e w' => ∃ c κ' S', e = .returned c ∧ Good κ' S' (after h h') w' ∧ VR S' w' v κ' c ∧ Ext κ S h w κ' S' (after h h') w' ∧ ∀ id c, κ id = some c → κ' id = some c

def AllMut (P : Program) (G : Nat → V) (mt : List (Nat × (List V → List Blk → T (V × List Blk)))) : Prop := ∀ p, p ∈ mt → MutOK P G p.1 p.2

theorem AllMut.nil {P : Program} {G : Nat → V} : AllMut P G [] := fun _ h => by cases h

theorem AllMut.cons {P : Program} {G : Nat → V} {f : Nat} {M : List V → List Blk → T (V × List Blk)} {mt : List (Nat × (List V → List Blk → T (V × List Blk)))} (h : MutOK P G f M) (ht : AllMut P G mt) : AllMut P G ((f, M) :: mt) := fun p hp => by
  rcases List.mem_cons.1 hp with rfl | hp
  · exact h
  · exact ht p hp

/-- A table of callees that write, and one of callees that do not. -/
def callM (mt : List (Nat × (List V → List Blk → T (V × List Blk)))) (tbl : List (Nat × (List V → T (V × List Blk)))) (f : FuncId) (vs : List V) (h : List Blk) : T (V × List Blk) :=
  match lookN f mt with
  | some M => M vs h
  | none => callT tbl f vs h

theorem callM_ok {P : Program} {Γ : Cx0} {mt : List (Nat × (List V → List Blk → T (V × List Blk)))} {tbl : List (Nat × (List V → T (V × List Blk)))} (hc : Γ.call = callM mt tbl) (hm : AllMut P Γ.glob mt) (ht : AllPure P Γ.glob tbl) : CallOK P Γ := by
  intro f vs cs κ S h w v h' hg hE hv he
  rw [hc] at he
  unfold callM at he
  split at he
  · rename_i M hM
    exact hm _ (lookN_spec hM) vs cs κ S h w v h' hg hE hv he
  · exact callT_ok (Γ := ⟨callT tbl, Γ.glob⟩) rfl ht f vs cs κ S h w v h' hg hE hv he

section
variable {S : Nat → Prop} {w w' : World} {κ : Nat → Option Value} {h : List Blk}

/-- The one name of a row that is lent. -/
def oneK (κ : Nat → Option Value) (id : Nat) : Nat → Option Value := fun i => if i = 0 then κ id else none

theorem own_one {lk : Bool} {id e s n : Nat} {g g' : Nat → V} (hh : h[id]? = some (.row e s n g)) (i b : Nat) : ownB (oneK κ id) [.xrow lk e s n g'] i = some b ↔ i = 0 ∧ ownB κ h id = some b := by
  rw [ownB_of hh (by simp)]
  cases i with
  | zero => simp [ownB, oneK]
  | succ i => simp [ownB]

theorem Good.one {lk : Bool} {id e s n : Nat} {g g0 : Nat → V} (hg : Good κ S h w) (hh : h[id]? = some (.row e s n g)) (h0 : ∀ i, i < n → g0 i = g i) : Good (oneK κ id) S [.xrow lk e s n g0] w := by
  refine ⟨fun i b hi => ?_, fun i j k hij hi hj => ?_, fun b hb => ⟨(hg.out b hb).1, fun i hi => ?_⟩, fun i hi => ?_⟩
  · cases i with
    | zero =>
      simp at hi
      subst hi
      obtain ⟨r0, cc, xs, r1, r2, r3⟩ := hg.blk id _ hh
      exact ⟨r0, cc, xs, r1, r2, fun i hi => by rw [h0 i hi]; exact r3 i hi⟩
    | succ i => simp at hi
  · have h1 := ((own_one hh i k).1 hi).1
    have h2 := ((own_one hh j k).1 hj).1
    omega
  · exact (hg.out b hb).2 id ((own_one hh i b).1 hi).2
  · have hi : 1 ≤ i := hi
    unfold oneK
    rw [if_neg (by omega)]

/-- Own memory behind a call that was lent one row: all other blocks as they were. -/
theorem Good.back {id e s n : Nat} {g g' : Nat → V} (hg : Good κ S h w) (hh : h[id]? = some (.row e s n g)) (hsz : w.heap.size ≤ w'.heap.size)
    (hkeep : ∀ b, b < w.heap.size → ownB κ h id ≠ some b → w'.heap[b]? = w.heap[b]?) (hB : Holds S w' κ (κ id) (.row e s n g')) : Good κ S (h.set id (.row e s n g')) w' := by
  have hlen : id < h.length := (List.getElem?_eq_some_iff.1 hh).1
  have hown : ∀ i, ownB κ (h.set id (.row e s n g')) i = ownB κ h i := fun i => by
    by_cases hi : id = i
    · subst hi
      rw [ownB_of hh (by simp), ownB_of (b := .row e s n g') (by simp [hlen]) (by simp)]
    · unfold ownB
      rw [List.getElem?_set_ne hi]
  have hS : ∀ b, S b → S b ∧ w'.heap[b]? = w.heap[b]? := fun b hb => ⟨hb, hkeep b (hg.out b hb).1 ((hg.out b hb).2 id)⟩
  refine ⟨fun i b hi => ?_, fun i j k hij hi => ?_, fun b hb => ⟨Nat.lt_of_lt_of_le (hg.out b hb).1 hsz, fun i => ?_⟩, fun i hi => hg.dom i (by simpa using hi)⟩
  · by_cases hii : id = i
    · subst hii
      rw [List.getElem?_set_self hlen] at hi
      simp only [Option.some.injEq] at hi
      subst hi
      exact hB
    · rw [List.getElem?_set_ne hii] at hi
      by_cases hd : b = .dead
      · subst hd; trivial
      · refine (hg.blk i b hi).mono hS (fun _ _ h => h) fun k hk => hkeep k ((hg.blk i b hi).lt hd hk) fun hk2 => ?_
        exact hg.sep i id k (Ne.symm hii) (by rw [ownB_of hi hd]; exact hk) hk2
  · rw [hown] at hi ⊢
    exact hg.sep i j k hij hi
  · rw [hown]
    exact (hg.out b hb).2 i

theorem Ext.back {id e s n : Nat} {g g' : Nat → V} (hg : Good κ S h w) (hh : h[id]? = some (.row e s n g)) (hos : w'.os = w.os) (htape : w'.tape = w.tape) (hout : w'.output = w.output) (hsz : w.heap.size ≤ w'.heap.size)
    (hkeep : ∀ b, b < w.heap.size → ownB κ h id ≠ some b → w'.heap[b]? = w.heap[b]?) : Ext κ S h w κ S (h.set id (.row e s n g')) w' := by
  have hlen : id < h.length := (List.getElem?_eq_some_iff.1 hh).1
  have hown : ∀ i, ownB κ (h.set id (.row e s n g')) i = ownB κ h i := fun i => by
    by_cases hi : id = i
    · subst hi
      rw [ownB_of hh (by simp), ownB_of (b := .row e s n g') (by simp [hlen]) (by simp)]
    · unfold ownB
      rw [List.getElem?_set_ne hi]
  have hne : ∀ i lk e1 s1 n1 g1, h[i]? = some (.xrow lk e1 s1 n1 g1) → id ≠ i := fun i lk e1 s1 n1 g1 hi e' => by
    subst e'
    rw [hh] at hi
    cases hi
  refine ⟨hos, htape, hout, hsz, fun b hb hn => hkeep b hb (hn id), fun i b hi => .inl ⟨i, by rw [← hown]; exact hi⟩, fun _ hb => .inl hb, fun _ hb => hb,
    pre_of hsz (fun b hb hn => hkeep b hb (hn id)) (fun i b hi _ => ⟨i, by rw [← hown]; exact hi, fun e1 s1 n1 g1 hx => ⟨e1, s1, n1, g1, by
      rw [List.getElem?_set_ne (hne i _ _ _ _ _ hx)]; exact hx, Nat.le_refl _⟩⟩)
      (fun i e1 s1 n1 g1 b hx hb => Kept.same (hkeep b (hg.lt hb) fun hk => hg.sep i id b (Ne.symm (hne i _ _ _ _ _ hx)) hb hk)), fun i e1 s1 n1 g1 hx => ⟨rfl, g1, ?_⟩⟩
  by_cases hi : id = i
  · subst hi
    rw [List.getElem?_set_self hlen] at hx
    simp at hx
  · rw [List.getElem?_set_ne hi] at hx
    exact hx

end

/-- A callee that writes the row that its first argument names: what it leaves there. -/
def markM (e s : Nat) (F : Nat → (Nat → V) → List V → T (Nat → V)) : List V → List Blk → T (V × List Blk)
  | .ref id :: vs, h => match h[id]? with
    | some (.row e' s' n g) => match Nat.beq e e', Nat.beq s s' with
      | true, true => (F n g vs).bind fun g' => .leaf (.tup [], .dead :: h.set id (.row e s n g'))
      | _, _ => .fail
    | _ => .fail
  | _, _ => .fail

/-- A callee that appends to the row that its first argument names: the row is as it was. -/
def growM (e s : Nat) (F : Nat → (Nat → V) → List V → T Unit) : List V → List Blk → T (V × List Blk)
  | .ref id :: vs, h => match h[id]? with
    | some (.row e' s' n g) => match Nat.beq e e', Nat.beq s s' with
      | true, true => (F n g vs).bind fun _ => .leaf (.tup [], [])
      | _, _ => .fail
    | _ => .fail
  | _, _ => .fail

theorem VR_unit {S S' : Nat → Prop} {w w' : World} {κ κ' : Nat → Option Value} {c : Value} (h : VR S w (.tup []) κ c) : VR S' w' (.tup []) κ' c := h

section
variable {P : Program} {τ : List Ty} (hτ : TabOK P τ) (hm : P.follows .mixedOrders = true) {G : Nat → V} {f : FuncId} {fn : Func} {e s : Nat}

include hτ hm in
theorem markM_ok {F : Nat → (Nat → V) → List V → T (Nat → V)} (hf : P.funcs[f]? = some fn) (hb : fn.body.isSome = true) (hn : (fn.name == "runtime.NumGoroutine") = false)
    (H : ∀ n g vs g', (F n g vs).sem = some g' → free.frees vs = true ∧ (∀ i, i < n → bare (g' i) = true) ∧ ∃ Γ : Cx, Γ.glob = G ∧ CallOK P Γ.base ∧ LoopOK Γ ∧
      ∃ g0 h' g2, (∀ i, i < n → g0 i = g i) ∧ (evalF τ Γ fn (.ref 0 :: vs) [.xrow false e s n g0]).sem = some (.tup [], h') ∧ h'[0]? = some (.xrow false e s n g2) ∧ ∀ i, i < n → g' i = g2 i) : MutOK P G f (markM e s F) := by
  intro vs cs κ S h w v h' hg hE hv he
  obtain ⟨c, hb⟩ := Option.isSome_iff_exists.1 hb
  have hn : fn.name ≠ "runtime.NumGoroutine" := by simpa using hn
  unfold markM at he
  split at he
  · rename_i id vs'
    split at he
    · rename_i e' s' n g hh
      split at he
      · rename_i h1 h2
        obtain rfl := Nat.eq_of_beq_eq_true h1
        obtain rfl := Nat.eq_of_beq_eq_true h2
        obtain ⟨g', q1, q2⟩ := sem_bind_some he
        have q2 := sem_leaf q2
        simp only [Prod.mk.injEq] at q2
        obtain ⟨rfl, rfl⟩ := q2
        obtain ⟨hfr, hbare, Γ, rfl, hΓ, hΛ, g0, h1', g2, hg0, he', hh', hg2⟩ := H n g vs' g' q1
        obtain ⟨c0, cs', rfl, ⟨hc0, hsl⟩, hvs⟩ := hv
        have hv1 : VRs S w (.ref 0 :: vs') (oneK κ id) (c0 :: cs') := ⟨c0, cs', rfl, ⟨hc0, hsl⟩, VRs_free vs' cs' hfr hvs⟩
        refine .inl ⟨⟨fn, hf, hn, by rw [hb]; rfl⟩, (evalF_ok (P := P) hτ hm hΓ hΛ hf hb (hg.one (lk := false) hh hg0) hE hv1 he').mono ?_⟩
        rintro en w' ⟨u, κ', S', rfl, g1, g2', g3⟩
        have hfix := g3.fix 0 e s n g2 hh'
        have hk0 : κ' 0 = κ id := hfix.1
        have hkeep : ∀ b, b < w.heap.size → ownB κ h id ≠ some b → w'.heap[b]? = w.heap[b]? := fun b hb hne => g3.keep b hb fun i hi => hne ((own_one hh i b).1 hi).2
        have hB : Holds S w' κ (κ id) (.row e s n g') := by
          obtain ⟨r0, cc, xs, r1, r2, r3⟩ := g1.blk 0 _ hh'
          refine ⟨r0, cc, xs, by rw [← hk0]; exact r1, r2, fun i hi => ?_⟩
          obtain ⟨ci, p1, p2, p3, p4⟩ := r3 i hi
          exact ⟨ci, VR_bare _ _ _ (hbare i hi) (by rw [hg2 i hi]; exact p1), p2, p3, p4⟩
        exact ⟨u, κ, S, rfl, hg.back hh g3.size hkeep hB, VR_unit g2', Ext.back hg hh g3.os g3.tape g3.output g3.size hkeep, fun _ _ h => h⟩
      · cases he
    · cases he
  · cases he

include hτ hm in
theorem growM_ok {F : Nat → (Nat → V) → List V → T Unit} (hf : P.funcs[f]? = some fn) (hb : fn.body.isSome = true) (hn : (fn.name == "runtime.NumGoroutine") = false)
    (H : ∀ n g vs u, (F n g vs).sem = some u → free.frees vs = true ∧ ∃ Γ : Cx, Γ.glob = G ∧ CallOK P Γ.base ∧ LoopOK Γ ∧
      ∃ h', (evalF τ Γ fn (.ref 0 :: vs) [.xrow true e s n g]).sem = some (.tup [], h')) : MutOK P G f (growM e s F) := by
  intro vs cs κ S h w v h' hg hE hv he
  obtain ⟨c, hb⟩ := Option.isSome_iff_exists.1 hb
  have hn : fn.name ≠ "runtime.NumGoroutine" := by simpa using hn
  unfold growM at he
  split at he
  · rename_i id vs'
    split at he
    · rename_i e' s' n g hh
      split at he
      · rename_i h1 h2
        obtain rfl := Nat.eq_of_beq_eq_true h1
        obtain rfl := Nat.eq_of_beq_eq_true h2
        obtain ⟨u0, q1, q2⟩ := sem_bind_some he
        have q2 := sem_leaf q2
        simp only [Prod.mk.injEq] at q2
        obtain ⟨rfl, rfl⟩ := q2
        obtain ⟨hfr, Γ, rfl, hΓ, hΛ, h1', he'⟩ := H n g vs' u0 q1
        obtain ⟨c0, cs', rfl, ⟨hc0, hsl⟩, hvs⟩ := hv
        have hv1 : VRs S w (.ref 0 :: vs') (oneK κ id) (c0 :: cs') := ⟨c0, cs', rfl, ⟨hc0, hsl⟩, VRs_free vs' cs' hfr hvs⟩
        refine .inl ⟨⟨fn, hf, hn, by rw [hb]; rfl⟩, (evalF_ok (P := P) hτ hm hΓ hΛ hf hb (hg.one (lk := true) hh fun _ _ => rfl) hE hv1 he').mono ?_⟩
        rintro en w' ⟨u, κ', S', rfl, g1, g2', g3⟩
        have hkeep : ∀ b, b < w.heap.size → ownB κ h id ≠ some b → w'.heap[b]? = w.heap[b]? := fun b hb hne => g3.keep b hb fun i hi => hne ((own_one hh i b).1 hi).2
        have hS : ∀ b, S b → S b ∧ w'.heap[b]? = w.heap[b]? := fun b hb => ⟨hb, hkeep b (hg.out b hb).1 ((hg.out b hb).2 id)⟩
        have hset : h.set id (.row e s n g) = h := by
          have hl := (List.getElem?_eq_some_iff.1 hh).1
          have := (List.getElem?_eq_some_iff.1 hh).2
          rw [← this, List.set_getElem_self]
        have hB : Holds S w' κ (κ id) (.row e s n g) := by
          obtain ⟨r0, cc, xs, r1, r2, r3⟩ := hg.blk id _ hh
          refine ⟨r0, cc, xs, r1, ⟨r2.1, ?_⟩, r3.mono hS⟩
          rcases r2.2 with hnil | ⟨k, cap, cur, rfl, k0, k1, k2, k3, k4, k5⟩
          · exact .inl hnil
          · have hown : ownB κ h id = some k := by rw [ownB_of hh (by simp), r1]; rfl
            have hsafe : Safe (oneK κ id) [.xrow true e s n g] w k (n * s) := ⟨hg.lt hown, fun i hi => by
              have := ((own_one hh i k).1 hi).1
              subst this
              exact ⟨e, s, n, g, rfl, Nat.le_refl _⟩⟩
            obtain ⟨cur', p1, p2, p3⟩ := (g3.pre k (n * s) hsafe).2 cur e (0, 0) k1
            refine .inr ⟨k, cap, cur', rfl, k0, p1, k2, k3, by rw [p2, k4], ?_⟩
            rw [← k5]
            apply List.ext_getElem?
            intro j
            rw [List.getElem?_take, List.getElem?_take]
            split
            · rename_i hj
              rw [Array.getElem?_toList, Array.getElem?_toList]
              exact p3 j hj
            · rfl
        have hgood := hg.back (g' := g) hh g3.size hkeep hB
        have hext := Ext.back (S := S) (g' := g) hg hh g3.os g3.tape g3.output g3.size hkeep
        rw [hset] at hgood hext
        exact ⟨u, κ, S, rfl, hgood, VR_unit g2', hext, fun _ _ h => h⟩
      · cases he
    · cases he
  · cases he

end
end Go.Sy

namespace Go.Sy

/-- Pairs, one text behind the other. -/
def pairsF : List (List UInt8 × List UInt8) → List (List UInt8)
  | [] => []
  | z :: zs => z.1 :: z.2 :: pairsF zs

theorem pairsF_len (zs : List (List UInt8 × List UInt8)) : (pairsF zs).length = 2 * zs.length := by
  induction zs with
  | nil => rfl
  | cons z zs ih => simp only [pairsF, List.length_cons, ih]; omega

theorem pairsF_at : ∀ (zs : List (List UInt8 × List UInt8)) (i : Nat), (pairsF zs)[2 * i]? = zs[i]?.map (·.1) ∧ (pairsF zs)[2 * i + 1]? = zs[i]?.map (·.2)
  | [], i => by simp [pairsF]
  | z :: zs, 0 => by simp [pairsF]
  | z :: zs, i + 1 => by
    have := pairsF_at zs i
    rw [pairsF, show 2 * (i + 1) = 2 * i + 1 + 1 by omega]
    simpa using this

theorem pairs_cells {H : Type} {enc : TypeId × Value → H} {P : Program} {w : World} {base : Nat} {sp : Nat → Bool} {held : Bool} {fuel : Nat} {t e : TypeId} {n : Nat} {cs : List Value} {zs : List (List UInt8 × List UInt8)} {p : List MemPlace} {f0 f1 : Field}
    (ht : P.underlying t = some (.array n e)) (he : P.underlying e = some (.struct #[f0, f1])) (h0 : P.underlying f0.type = some .string) (h1 : P.underlying f1.type = some .string)
    (o0 : f0.offset = 0) (o1 : f1.offset = 1) (k0 : P.cellsOf f0.type = 1) (k1 : P.cellsOf f1.type = 1) (hce : P.cellsOf e = 2) (hct : P.cellsOf t = n * 2)
    (h : DataW.trod enc P w base sp held fuel t cs = some (.agg (zs.map fun z => .agg [.lit (.string z.1), .lit (.string z.2)]), p)) : cs = (pairsF zs).map fun z => Value.string ⟨z.toArray⟩ := by
  cases fuel with
  | zero => simp [DataW.trod] at h
  | succ fuel =>
    simp only [DataW.trod, ht, hce, hct] at h
    split at h
    · rename_i hl
      obtain ⟨xs, hm, hx⟩ := Option.map_eq_some_iff.1 h
      have hxs : xs.map (·.1) = zs.map fun z => (DataW.agg [.lit (.string z.1), .lit (.string z.2)] : DataW H) := by
        have := congrArg Prod.fst hx
        simpa using this
      have hxl : xs.length = n := by simpa using Lib.mapM_length hm
      have hzl : zs.length = n := by
        have := congrArg List.length hxs
        simp at this
        omega
      have hcl : cs.length = n * 2 := by simpa using hl
      have key : ∀ i, i < n → ∃ z, zs[i]? = some z ∧ cs[2 * i]? = some (.string ⟨z.1.toArray⟩) ∧ cs[2 * i + 1]? = some (.string ⟨z.2.toArray⟩) := fun i hi => by
        obtain ⟨b, hb, hf⟩ := Lib.mapM_at hm i i (by simp [hi])
        obtain ⟨y0, y1, m, hy, _, hf0, hf1⟩ := Go.ChangeShapes.trod_struct2 he hf
        rw [o0, k0] at hf0
        rw [o1, k1] at hf1
        obtain ⟨s0, c0, e0, _⟩ := DataW.trod_string h0 hf0
        obtain ⟨s1, c1, e1, _⟩ := DataW.trod_string h1 hf1
        have h2 : (xs.map (·.1))[i]? = some b.1 := by simp [hb]
        rw [hxs] at h2
        simp only [List.getElem?_map, Option.map_eq_some_iff] at h2
        obtain ⟨z, hz, hzb⟩ := h2
        rw [hy, e0, e1] at hzb
        simp only [DataW.agg.injEq, List.cons.injEq, DataW.lit.injEq, Lit.string.injEq, and_true] at hzb
        refine ⟨z, hz, ?_, ?_⟩
        · have := congrArg (·[0]?) c0
          rw [hzb.1]
          simpa [List.getElem?_take, List.getElem?_drop, Nat.mul_comm] using this
        · have := congrArg (·[0]?) c1
          rw [hzb.2]
          simpa [List.getElem?_take, List.getElem?_drop, Nat.mul_comm] using this
      apply List.ext_getElem?
      intro j
      by_cases hj : j < n * 2
      · obtain ⟨z, q1, q2, q3⟩ := key (j / 2) (by omega)
        have hp := pairsF_at zs (j / 2)
        rcases Nat.mod_two_eq_zero_or_one j with hr | hr
        · rw [show j = 2 * (j / 2) by omega, q2, List.getElem?_map, hp.1, q1]
          rfl
        · rw [show j = 2 * (j / 2) + 1 by omega, q3, List.getElem?_map, hp.2, q1]
          rfl
      · rw [List.getElem?_eq_none (by omega), List.getElem?_eq_none (by rw [List.length_map, pairsF_len]; omega)]
    · cases h

theorem pairs_ok {P : Program} {W : World} {name : String} {zs : List (List UInt8 × List UInt8)} {g : Nat} {t e : TypeId} {n : Nat} {ps : List MemPlace} {rest : List (String × DataW Unit)} {f0 f1 : Field}
    (hg : P.globalNamed name = some g) (hty : (P.globals[g]?).map (·.type) = some t) (ht : P.underlying t = some (.array n e)) (he : P.underlying e = some (.struct #[f0, f1])) (h0 : P.underlying f0.type = some .string) (h1 : P.underlying f1.type = some .string)
    (o0 : f0.offset = 0) (o1 : f1.offset = 1) (k0 : P.cellsOf f0.type = 1) (k1 : P.cellsOf f1.type = 1) (hce : P.cellsOf e = 2) (hct : P.cellsOf t = n * 2)
    (h : DataW.LaidVars P W ((name, .agg (zs.map fun z => .agg [.lit (.string z.1), .lit (.string z.2)])) :: rest) ps) :
    VR (Live W) W (textsV (pairsF zs)) noK (.pointer (some ⟨g, 0, none⟩)) ∧ ∃ qs, DataW.LaidVars P W rest qs := by
  obtain ⟨g', t', cs, fuel, p, q, hg', ht', hvar, hd, hr, _⟩ := h
  obtain rfl := Option.some.inj (hg.symm.trans hg')
  obtain rfl := Option.some.inj (hty.symm.trans ht')
  have hcs := pairs_cells ht he h0 h1 o0 o1 k0 k1 hce hct hd
  refine ⟨⟨g, 0, .agg ((pairsF zs).map fun z => Value.string ⟨z.toArray⟩).toArray, rfl, ⟨_, rfl, VRs_texts _⟩, fun j u hj => ?_⟩, q, hr⟩
  have hj : ((pairsF zs).map fun z => Value.string ⟨z.toArray⟩)[j]? = some u := by
    simpa only [Value.cells] using hj
  have h1 := World.var?_cell hg hvar j
  have h2 : cs[j]? = some u := by
    rw [← Array.getElem?_toList, hcs]
    exact hj
  rw [h2] at h1
  rw [Nat.zero_add]
  exact ⟨cell_lt h1, h1⟩

end Go.Sy

