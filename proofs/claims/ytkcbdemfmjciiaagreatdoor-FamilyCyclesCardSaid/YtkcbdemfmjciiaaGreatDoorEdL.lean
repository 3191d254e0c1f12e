/-
  Layer 3: lists of edges: the same, a copy. No conditions.
-/
import Derived.Test.YtkcbdemfmjciiaaGreatDoorEdE
import Derived.Test.YtkcbdemfmjciiaaGreatDoorSyR
namespace Go.Proofs.YtkcbdemfmjciiaaGreatDoor.Ed
open Go.Sy

/-! ### Lists of edges as arguments -/

def okE (v : V) : Bool := match toE v with
  | some _ => true
  | none => false
def edE (v : V) : E6 := match toE v with
  | some e => e
  | none => zeroE

def allN (n : Nat) (p : Nat → Bool) : Bool := (List.range n).all p

theorem allN_iff {n : Nat} {p : Nat → Bool} : allN n p = true ↔ ∀ i, i < n → p i = true := by simp [allN]

theorem allN_ok (n : Nat) (f : Nat → E6) : allN n (fun i => okE (eV (f i))) = true := allN_iff.2 fun _ _ => rfl

theorem okE_spec {v : V} (h : okE v = true) : v = eV (edE v) := by
  unfold okE at h
  unfold edE
  split at h
  · rename_i e he
    exact toE_some he
  · cases h

def gSl : V → Option (Nat × (Nat → V))
  | .sl s n g => match Nat.beq s 6 with
    | true => some (n, g)
    | false => match n with
      | 0 => some (0, g)
      | _ => none
  | .slr s n _ g => match Nat.beq s 6 with
    | true => some (n, g)
    | false => none
  | _ => none

/-- A list of edges, handed on. -/
def apL {α : Type} (v : V) (F : Nat → (Nat → E6) → T α) : T α :=
  match gSl v with
  | some (n, g) => .br (allN n fun i => okE (g i)) (F n fun i => edE (g i)) .fail
  | none => .fail

def edgesV (n : Nat) (f : Nat → E6) : V := .sl 6 n fun i => eV (f i)

theorem apL_some {α : Type} {v : V} {F : Nat → (Nat → E6) → T α} {r : α} (h : (apL v F).sem = some r) :
    ∃ n f, (∀ (S : Nat → Prop) (w : World) (c : Value), VR S w v noK c → VR S w (edgesV n f) noK c) ∧ (F n f).sem = some r := by
  unfold apL at h
  split at h
  · rename_i n g hg
    obtain ⟨h1, h2⟩ := sem_br_fail h
    have h1 := allN_iff.1 h1
    refine ⟨n, _, fun S w c hv => ?_, h2⟩
    unfold gSl at hg
    split at hg
    · rename_i s n' g'
      split at hg
      · rename_i hs
        simp only [Option.some.injEq, Prod.mk.injEq] at hg
        obtain ⟨rfl, rfl⟩ := hg
        have hs : s = 6 := Nat.eq_of_beq_eq_true hs
        subst hs
        obtain ⟨a, cap, e, hc, hb⟩ := hv
        refine ⟨a, cap, e, hc, hb.imp id ?_⟩
        rintro ⟨b, o, ea, hel⟩
        refine ⟨b, o, ea, fun i hi => ?_⟩
        have := hel i hi
        rw [okE_spec (h1 i hi)] at this
        exact this
      · split at hg
        · simp only [Option.some.injEq, Prod.mk.injEq] at hg
          obtain ⟨rfl, rfl⟩ := hg
          obtain ⟨a, cap, e, hc, _⟩ := hv
          exact ⟨a, cap, e, hc, .inl rfl⟩
        · cases hg
    · rename_i s n' m' g'
      split at hg
      · rename_i hs
        simp only [Option.some.injEq, Prod.mk.injEq] at hg
        obtain ⟨rfl, rfl⟩ := hg
        have hs : s = 6 := Nat.eq_of_beq_eq_true hs
        subst hs
        obtain ⟨a, cap, e, hc, hm, hb⟩ := hv
        refine ⟨a, cap, e, Nat.le_trans hc hm, ?_⟩
        rcases hb with h0 | ⟨b, o, ea, hel⟩
        · exact .inl (by omega)
        · refine .inr ⟨b, o, ea, fun i hi => ?_⟩
          have := hel i (by omega)
          rw [okE_spec (h1 i hi)] at this
          exact this
      · cases hg
    · cases hg
  · cases h

def apL1 (F : Nat → (Nat → E6) → T (V × List Blk)) : List V → T (V × List Blk)
  | [v] => apL v F
  | _ => .fail
def apL2 (F : Nat → (Nat → E6) → Nat → (Nat → E6) → T (V × List Blk)) : List V → T (V × List Blk)
  | [v, u] => apL v fun n f => apL u fun m g => F n f m g
  | _ => .fail

theorem apL1_some {F : Nat → (Nat → E6) → T (V × List Blk)} {vs : List V} {r : V × List Blk} (h : (apL1 F vs).sem = some r) : ∃ n f, ArgLE vs [edgesV n f] ∧ (F n f).sem = some r := by
  unfold apL1 at h
  split at h
  · obtain ⟨n, f, h1, h2⟩ := apL_some h
    refine ⟨n, f, fun S w cs hv => ?_, h2⟩
    obtain ⟨c, l, rfl, q1, q2⟩ := hv
    exact ⟨c, l, rfl, h1 S w c q1, q2⟩
  · cases h

theorem apL2_some {F : Nat → (Nat → E6) → Nat → (Nat → E6) → T (V × List Blk)} {vs : List V} {r : V × List Blk} (h : (apL2 F vs).sem = some r) :
    ∃ n f m g, ArgLE vs [edgesV n f, edgesV m g] ∧ (F n f m g).sem = some r := by
  unfold apL2 at h
  split at h
  · obtain ⟨n, f, h1, h2⟩ := apL_some h
    obtain ⟨m, g, h3, h4⟩ := apL_some h2
    refine ⟨n, f, m, g, fun S w cs hv => ?_, h4⟩
    obtain ⟨c, l, rfl, q1, c', l', rfl, q2, q3⟩ := hv
    exact ⟨c, _, rfl, h1 S w c q1, c', l', rfl, h3 S w c' q2, q3⟩
  · cases h

theorem succ_wr {i n : Nat} (h : i < n) (hn : n ≤ 4611686018427387904) : wr .i64 (iadd (Int.ofNat i) 1) = Int.ofNat (i + 1) := by
  unfold wr iadd IntKind.wrap
  simp [IntKind.bits, IntKind.signed]
  omega

theorem ofNat_lt {i n : Nat} (h : i < n) : ilt (Int.ofNat i) (Int.ofNat n) = true := by simp [ilt]; omega
theorem ofNat_ge {i n : Nat} (h : n ≤ i) : ilt (Int.ofNat i) (Int.ofNat n) = false := by simp [ilt]; omega
theorem ofNat_in {i n : Nat} (h : i < n) : band (ile 0 (Int.ofNat i)) (ilt (Int.ofNat i) (Int.ofNat n)) = true := by rw [ofNat_lt h]; simp [band, ile]

/-! ### The same -/

noncomputable def cx9 (l : List (Nat × Lp)) : Cx := cxOf Gl tb8 l
def lp36 (n : Nat) : Lp := ⟨[true, true, false, false, true, true, false, false, false, false, false, false, false, false, false, false, false, false, false, false, false, false, false, false, false, false], 0, [true, true, false, false, true, false, false, false, false, false, false, false, false, false, false, false, false, false, false, false, false, false, false, false, false, false], 0, n + 1⟩
def st36 (n m : Nat) (i : Int) (f g : Nat → E6) (j : Nat → V) : St := ⟨[.sl 6 n fun i => eV (f i), .sl 6 m fun i => eV (g i), j 2, j 3, bV false, iV i, j 6, j 7, j 8, j 9, j 10, j 11, j 12, j 13, j 14, j 15, j 16, j 17, j 18, j 19, j 20, j 21, j 22, j 23, j 24, j 25], []⟩
def en36 (n m : Nat) (f g : Nat → E6) : St := ⟨[.sl 6 n fun i => eV (f i), .sl 6 m fun i => eV (g i), .und, .und, bV false, .und, .und, .und, .und, .und, .und, .und, .und, .und, .und, .und, .und, .und, .und, .und, .und, .und, .und, .und, .und, .und], []⟩
noncomputable def body36 (L : Nat → (St → T (Ex × St)) → St → T (Ex × St)) : St → T (Ex × St) := fun st => evalC tab ⟨callT tb8, L, Gl⟩ (loopBody Tryz.f6 0) 0 st

theorem same_end (L : Nat → (St → T (Ex × St)) → St → T (Ex × St)) (n m i : Nat) (f g : Nat → E6) (j : Nat → V) : ((body36 L (st36 n m (Int.ofNat i) f g j)).bind fun r => T.leaf (r.1, cutS [true, true, false, false, true, false, false, false, false, false, false, false, false, false, false, false, false, false, false, false, false, false, false, false, false, false] 0 r.2)).path [false] = some ([ilt (Int.ofNat i) (Int.ofNat n)], (.ex 0, en36 n m f g)) := by kernel_rfl
theorem same_out (L : Nat → (St → T (Ex × St)) → St → T (Ex × St)) (n m i : Nat) (f g : Nat → E6) (j : Nat → V) : ((body36 L (st36 n m (Int.ofNat i) f g j)).bind fun r => T.leaf (r.1, cutS [true, true, false, false, true, false, false, false, false, false, false, false, false, false, false, false, false, false, false, false, false, false, false, false, false, false] 0 r.2)).path [true, true, true, true] =
    some ([ilt (Int.ofNat i) (Int.ofNat n), band (ile 0 (Int.ofNat i)) (ilt (Int.ofNat i) (Int.ofNat n)), band (ile 0 (Int.ofNat i)) (ilt (Int.ofNat i) (Int.ofNat m)), bnot (eqE (f i) (g i))], (.rt, en36 n m f g)) := by kernel_rfl
theorem same_next (L : Nat → (St → T (Ex × St)) → St → T (Ex × St)) (n m i : Nat) (f g : Nat → E6) (j : Nat → V) : ((body36 L (st36 n m (Int.ofNat i) f g j)).bind fun r => T.leaf (r.1, cutS [true, true, false, false, true, true, false, false, false, false, false, false, false, false, false, false, false, false, false, false, false, false, false, false, false, false] 0 r.2)).path [true, true, true, false] =
    some ([ilt (Int.ofNat i) (Int.ofNat n), band (ile 0 (Int.ofNat i)) (ilt (Int.ofNat i) (Int.ofNat n)), band (ile 0 (Int.ofNat i)) (ilt (Int.ofNat i) (Int.ofNat m)), bnot (eqE (f i) (g i))],
      (.nm, st36 n m (wr .i64 (iadd (Int.ofNat i) 1)) f g fun _ => .und)) := by kernel_rfl

/-- From the i-th on, all the same. -/
def eqFrom (f g : Nat → E6) : Nat → Nat → Bool
  | 0, _ => true
  | d + 1, i => match eqE (f i) (g i) with
    | true => eqFrom f g d (i + 1)
    | false => false

theorem same_run (L : Nat → (St → T (Ex × St)) → St → T (Ex × St)) (n m : Nat) (f g : Nat → E6) (hm : n = m) (hn : n ≤ 4611686018427387904) : ∀ (d i : Nat) (j : Nat → V) (q : Nat), n = i + d → d < q →
    (iterT (body36 L) (lp36 n) q (st36 n m (Int.ofNat i) f g j)).sem = some (match eqFrom f g d i with | true => .ex 0 | false => .rt, en36 n m f g)
  | 0, i, j, q + 1, h1, _ => by
    have h3 : (iterT (body36 L) (lp36 n) (q + 1) (st36 n m (Int.ofNat i) f g j)).sem = some (.ex 0, en36 n m f g) := iter_end (same_end L n m i f g j) (by rw [ofNat_ge (by omega)]) (fun h => by cases h)
    exact h3
  | d + 1, i, j, q + 1, h1, h2 => by
    have hi : i < n := by omega
    have hi' : i < m := by omega
    unfold eqFrom
    cases hc : eqE (f i) (g i) with
    | true =>
      have h3 : (iterT (body36 L) (lp36 n) (q + 1) (st36 n m (Int.ofNat i) f g j)).sem = (iterT (body36 L) (lp36 n) q (st36 n m (wr .i64 (iadd (Int.ofNat i) 1)) f g fun _ => .und)).sem :=
        iter_step (same_next L n m i f g j) (by rw [ofNat_in hi, ofNat_in hi', ofNat_lt hi, hc]; rfl)
      rw [h3, succ_wr hi hn]
      exact same_run L n m f g hm hn d (i + 1) (fun _ => .und) q (by omega) (by omega)
    | false =>
      have h3 : (iterT (body36 L) (lp36 n) (q + 1) (st36 n m (Int.ofNat i) f g j)).sem = some (.rt, en36 n m f g) := iter_end (same_out L n m i f g j) (by rw [ofNat_in hi, ofNat_in hi', ofNat_lt hi, hc]; rfl) (fun h => by cases h)
      exact h3

def sameB (n : Nat) (f : Nat → E6) (m : Nat) (g : Nat → E6) : Bool := sel (ieq (Int.ofNat n) (Int.ofNat m)) (eqFrom f g n 0) false

def jk36 (n m : Nat) (f g : Nat → E6) : Nat → V
  | 6 => edgesV n f
  | 7 => iV (Int.ofNat n)
  | 8 => edgesV m g
  | 9 => iV (Int.ofNat m)
  | 10 => bV (bnot (ieq (Int.ofNat n) (Int.ofNat m)))
  | _ => undefV

theorem same_cut (n m : Nat) (f g : Nat → E6) (L : Nat → (St → T (Ex × St)) → St → T (Ex × St)) : finF (evalF tab ⟨callT tb8, L, Gl⟩ Tryz.f6 [edgesV n f, edgesV m g] []) =
    finF (evalF tab ⟨callT tb8, fun _ _ _ => L 0 (body36 L) (st36 n m 0 f g (jk36 n m f g)), Gl⟩ Tryz.f6 [edgesV n f, edgesV m g] []) := by kernel_rfl
theorem same_ne (n m : Nat) (f g : Nat → E6) (L : Nat → (St → T (Ex × St)) → St → T (Ex × St)) : (finF (evalF tab ⟨callT tb8, L, Gl⟩ Tryz.f6 [edgesV n f, edgesV m g] [])).path [true] =
    some ([bnot (ieq (Int.ofNat n) (Int.ofNat m))], (bV false, [])) := by kernel_rfl
theorem same_eq (n m : Nat) (f g : Nat → E6) : (finF (evalF tab ⟨callT tb8, fun _ _ _ => .leaf (.ex 0, en36 n m f g), Gl⟩ Tryz.f6 [edgesV n f, edgesV m g] [])).path [false] =
    some ([bnot (ieq (Int.ofNat n) (Int.ofNat m))], (bV true, [])) := by kernel_rfl
theorem same_rt (n m : Nat) (f g : Nat → E6) : (finF (evalF tab ⟨callT tb8, fun _ _ _ => .leaf (.rt, en36 n m f g), Gl⟩ Tryz.f6 [edgesV n f, edgesV m g] [])).path [false] =
    some ([bnot (ieq (Int.ofNat n) (Int.ofNat m))], (bV false, [])) := by kernel_rfl

theorem same36 (n m : Nat) (f g : Nat → E6) (hn : n ≤ 4611686018427387904) : (finF (evalF tab (cx9 [(0, lp36 n)]) Tryz.f6 [edgesV n f, edgesV m g] [])).sem = some (bV (sameB n f m g), []) := by
  unfold sameB
  cases hc : ieq (Int.ofNat n) (Int.ofNat m) with
  | false => exact sem_of_path (same_ne n m f g _) (by rw [hc]; rfl)
  | true =>
    have h0 : Int.ofNat n = Int.ofNat m := by simpa only [ieq, beq_iff_eq] using hc
    have hm : n = m := Int.ofNat.inj h0
    have h1 := same_run (loopsBy [(0, lp36 n)]) n m f g hm hn n 0 (jk36 n m f g) (n + 1) (by omega) (by omega)
    have h2 := same_cut n m f g (loopsBy [(0, lp36 n)])
    have h3 : (finF (evalF tab (cx9 [(0, lp36 n)]) Tryz.f6 [edgesV n f, edgesV m g] [])).sem = (finF (evalF tab ⟨callT tb8, fun _ _ _ => .leaf (match eqFrom f g n 0 with | true => .ex 0 | false => .rt, en36 n m f g), Gl⟩ Tryz.f6 [edgesV n f, edgesV m g] [])).sem := by
      refine (congrArg T.sem h2).trans (told fun id _ _ _ _ => ?_)
      exact h1
    rw [h3]
    cases eqFrom f g n 0 with
    | true => exact sem_of_path (same_eq n m f g) (by rw [hc]; rfl)
    | false => exact sem_of_path (same_rt n m f g) (by rw [hc]; rfl)

def smallN (n : Nat) : Bool := decide (n ≤ 4611686018427387904)

def sameT : List V → T (V × List Blk) := apL2 fun n f m g => .br (smallN n) (out (bV (sameB n f m g))) .fail

end Go.Proofs.YtkcbdemfmjciiaaGreatDoor.Ed



namespace Go.Proofs.YtkcbdemfmjciiaaGreatDoor.Ed
open Go.Sy

def fitN (n : Nat) : Bool := decide (n * 40 ≤ 140737488355328)

section
variable (L : Nat → (St → T (Ex × St)) → St → T (Ex × St))

end

end Go.Proofs.YtkcbdemfmjciiaaGreatDoor.Ed



namespace Go.Proofs.YtkcbdemfmjciiaaGreatDoor.Ed
open Go.Sy

/-- May all of them be? -/
def mayN (n : Nat) (f : Nat → E6) : Bool := allN n fun i => ieq (codeF (f i)) 0

theorem mayN_iff {n : Nat} {f : Nat → E6} : mayN n f = true ↔ ∀ i, i < n → codeF (f i) = 0 := by
  unfold mayN
  rw [allN_iff]
  simp [ieq]

/-- The same edges just if the same numbers. -/
theorem eqFrom_iff (f g : Nat → E6) : ∀ d i, eqFrom f g d i = true ↔ ∀ j, i ≤ j → j < i + d → f j = g j
  | 0, i => by
    simp only [eqFrom, true_iff]
    intro j h1 h2; omega
  | d + 1, i => by
    unfold eqFrom
    cases h : eqE (f i) (g i) with
    | true =>
      have h0 := (eqE_iff _ _).1 h
      show eqFrom f g d (i + 1) = true ↔ _
      rw [eqFrom_iff f g d (i + 1)]
      constructor
      · intro q j h1 h2
        by_cases hj : j = i
        · subst hj; exact h0
        · exact q j (by omega) (by omega)
      · intro q j h1 h2; exact q j (by omega) (by omega)
    | false =>
      constructor
      · intro q; cases q
      · intro q
        have := (eqE_iff _ _).2 (q i (Nat.le_refl _) (by omega))
        rw [this] at h; cases h

end Go.Proofs.YtkcbdemfmjciiaaGreatDoor.Ed



namespace Go.Proofs.YtkcbdemfmjciiaaGreatDoor.Ed
open Go.Sy

theorem allN_true {n : Nat} : allN n (fun _ => Bool.true) = true := allN_iff.2 fun _ _ => rfl

/-- A row that grew by the elements of a list. -/
def pushN (g : Nat → V) : Nat → Nat → V
  | 0 => fun _ => .und
  | i + 1 => pushGet i (pushN g i) (g i)

theorem pushN_eq (g : Nat → V) : ∀ n j, j < n → pushN g n j = g j
  | 0, j, h => by omega
  | n + 1, j, h => by
    rw [show pushN g (n + 1) j = pushGet n (pushN g n) (g n) j from rfl, pushGet_eq]
    show (bif Nat.beq j n then g n else pushN g n j) = _
    cases hb : Nat.beq j n with
    | true =>
      rw [Nat.eq_of_beq_eq_true hb]
      rfl
    | false =>
      have := Nat.ne_of_beq_eq_false hb
      exact pushN_eq g n j (by omega)

theorem ap_fit {i n b c : Nat} (h : i < n) (hb : b ≤ c) (hn : n * c ≤ 140737488355328) : apOK i 1 b = true := by
  refine decide_eq_true ?_
  have h1 : (i + 1) * b ≤ n * b := Nat.mul_le_mul_right b (by omega)
  have h2 : n * b ≤ n * c := Nat.mul_le_mul_left n hb
  omega

theorem fit_small {n : Nat} (hn : fitN n = true) : n ≤ 4611686018427387904 := by
  have hn : n * 40 ≤ 140737488355328 := of_decide_eq_true hn
  omega

def cdV (f : Nat → E6) : Nat → V := fun i => iV (codeN (f i))

/-- The first that fails. -/
theorem firstNot (p : Nat → Bool) : ∀ n, allN n p = false → ∃ e, e < n ∧ p e = false ∧ ∀ t, t < e → p t = true
  | 0, h => by cases h
  | n + 1, h => by
    cases hn : allN n p with
    | false =>
      obtain ⟨e, h1, h2, h3⟩ := firstNot p n hn
      exact ⟨e, by omega, h2, h3⟩
    | true =>
      refine ⟨n, by omega, ?_, fun t ht => allN_iff.1 hn t ht⟩
      cases hp : p n with
      | false => rfl
      | true =>
        have : allN (n + 1) p = true := allN_iff.2 fun i hi => by
          by_cases hi' : i = n
          · rw [hi', hp]
          · exact allN_iff.1 hn i (by omega)
        rw [this] at h; cases h

theorem codeF_30 {e : E6} (h : codeF e ≠ 0) : codeF e = 30 := by
  rcases codeF_cases e with ⟨_, _, h1, _⟩ | ⟨h1, _⟩
  · exact absurd h1 h
  · exact h1

theorem may_no {n : Nat} {f : Nat → E6} (h : mayN n f = false) : ∃ e, e < n ∧ codeF (f e) = 30 ∧ ∀ t, t < e → codeF (f t) = 0 := by
  obtain ⟨e, h1, h2, h3⟩ := firstNot _ n h
  refine ⟨e, h1, codeF_30 fun h0 => ?_, fun t ht => by simpa [ieq] using h3 t ht⟩
  rw [h0] at h2
  cases h2

def codesT : List V → T (V × List Blk) := apL1 fun n f => .br (fitN n) (.br (mayN n f) (.leaf (.tup [.ref 0, iV 0], [.row 3 1 n fun i => iV (codeN (f i))])) (.leaf (.tup [.ref 0, iV 30], [.row 3 1 0 fun _ => .und]))) .fail

end Go.Proofs.YtkcbdemfmjciiaaGreatDoor.Ed




