/-
  Layer 5: lists of edges: the same, a copy. No conditions.
-/
import Derived.Test.YtdmjcpindopjdaaCoO
namespace Go.Proofs.Ytdmjcpindopjdaa.Co
open Go.Sy

def apL2 (F : Nat → (Nat → E6) → Nat → (Nat → E6) → T (V × List Blk)) : List V → T (V × List Blk)
  | [v, u] => apL v fun n f => apL u fun m g => F n f m g
  | _ => .fail

theorem apL2_some {F : Nat → (Nat → E6) → Nat → (Nat → E6) → T (V × List Blk)} {vs : List V} {r : V × List Blk} (h : (apL2 F vs).sem = some r) :
    ∃ n f m g, ArgLE vs [edgesV n f, edgesV m g] ∧ (F n f m g).sem = some r := by
  unfold apL2 at h
  split at h
  · obtain ⟨n, f, h1, h2⟩ := apL_some h
    obtain ⟨m, g, h3, h4⟩ := apL_some h2
    refine ⟨n, f, m, g, fun S w cs hv => ?_, h4⟩
    obtain ⟨c, l, rfl, q1, c', l', rfl, q2, q3⟩ := hv
    exact ⟨c, _, rfl, h1 S w c q1, c', l', rfl, h3 S w c' q2, q3⟩
  · cases h

/-! ### The same -/

noncomputable def cx9 (l : List (Nat × Lp)) : Cx := cxOf Gl t0 l
def lp36 (n : Nat) : Lp := ⟨[true, true, false, false, true, true, false, false, false, false, false, false, false, false, false, false, false, false, false, false, false, false, false, false, false, false], 0, [true, true, false, false, true, false, false, false, false, false, false, false, false, false, false, false, false, false, false, false, false, false, false, false, false, false], 0, n + 1⟩
def st36 (n m : Nat) (i : Int) (f g : Nat → E6) (j : Nat → V) : St := ⟨[.sl 6 n fun i => eV (f i), .sl 6 m fun i => eV (g i), j 2, j 3, bV false, iV i, j 6, j 7, j 8, j 9, j 10, j 11, j 12, j 13, j 14, j 15, j 16, j 17, j 18, j 19, j 20, j 21, j 22, j 23, j 24, j 25], []⟩
def en36 (n m : Nat) (f g : Nat → E6) : St := ⟨[.sl 6 n fun i => eV (f i), .sl 6 m fun i => eV (g i), .und, .und, bV false, .und, .und, .und, .und, .und, .und, .und, .und, .und, .und, .und, .und, .und, .und, .und, .und, .und, .und, .und, .und, .und], []⟩
noncomputable def body36 (L : Nat → (St → T (Ex × St)) → St → T (Ex × St)) : St → T (Ex × St) := fun st => evalC tab ⟨callT t0, L, Gl⟩ (loopBody Try.f14 0) 0 st

theorem same_end (L : Nat → (St → T (Ex × St)) → St → T (Ex × St)) (n m i : Nat) (f g : Nat → E6) (j : Nat → V) : ((body36 L (st36 n m (Int.ofNat i) f g j)).bind fun r => T.leaf (r.1, cutS [true, true, false, false, true, false, false, false, false, false, false, false, false, false, false, false, false, false, false, false, false, false, false, false, false, false] 0 r.2)).path [false] = some ([ilt (Int.ofNat i) (Int.ofNat n)], (.ex 0, en36 n m f g)) := by kernel_rfl
theorem same_out (L : Nat → (St → T (Ex × St)) → St → T (Ex × St)) (n m i : Nat) (f g : Nat → E6) (j : Nat → V) : ((body36 L (st36 n m (Int.ofNat i) f g j)).bind fun r => T.leaf (r.1, cutS [true, true, false, false, true, false, false, false, false, false, false, false, false, false, false, false, false, false, false, false, false, false, false, false, false, false] 0 r.2)).path [true, true, true, true] =
    some ([ilt (Int.ofNat i) (Int.ofNat n), band (ile 0 (Int.ofNat i)) (ilt (Int.ofNat i) (Int.ofNat n)), band (ile 0 (Int.ofNat i)) (ilt (Int.ofNat i) (Int.ofNat m)), bnot (eqE (f i) (g i))], (.rt, en36 n m f g)) := by kernel_rfl
theorem same_next (L : Nat → (St → T (Ex × St)) → St → T (Ex × St)) (n m i : Nat) (f g : Nat → E6) (j : Nat → V) : ((body36 L (st36 n m (Int.ofNat i) f g j)).bind fun r => T.leaf (r.1, cutS [true, true, false, false, true, true, false, false, false, false, false, false, false, false, false, false, false, false, false, false, false, false, false, false, false, false] 0 r.2)).path [true, true, true, false] =
    some ([ilt (Int.ofNat i) (Int.ofNat n), band (ile 0 (Int.ofNat i)) (ilt (Int.ofNat i) (Int.ofNat n)), band (ile 0 (Int.ofNat i)) (ilt (Int.ofNat i) (Int.ofNat m)), bnot (eqE (f i) (g i))],
      (.nm, st36 n m (wr .i64 (iadd (Int.ofNat i) 1)) f g fun _ => .und)) := by kernel_rfl

/-- From the i-th on, all the same. -/
def eqFrom (f g : Nat → E6) : Nat → Nat → Bool
  | 0, _ => true
  | d + 1, i => match eqE (f i) (g i) with
    | true => eqFrom f g d (i + 1)
    | false => false

theorem same_run (L : Nat → (St → T (Ex × St)) → St → T (Ex × St)) (n m : Nat) (f g : Nat → E6) (hm : n = m) (hn : n ≤ 4611686018427387904) : ∀ (d i : Nat) (j : Nat → V) (q : Nat), n = i + d → d < q →
    (iterT (body36 L) (lp36 n) q (st36 n m (Int.ofNat i) f g j)).sem = some (match eqFrom f g d i with | true => .ex 0 | false => .rt, en36 n m f g)
  | 0, i, j, q + 1, h1, _ => by
    have h3 : (iterT (body36 L) (lp36 n) (q + 1) (st36 n m (Int.ofNat i) f g j)).sem = some (.ex 0, en36 n m f g) := iter_end (same_end L n m i f g j) (by rw [ofNat_ge (by omega)]) (fun h => by cases h)
    exact h3
  | d + 1, i, j, q + 1, h1, h2 => by
    have hi : i < n := by omega
    have hi' : i < m := by omega
    unfold eqFrom
    cases hc : eqE (f i) (g i) with
    | true =>
      have h3 : (iterT (body36 L) (lp36 n) (q + 1) (st36 n m (Int.ofNat i) f g j)).sem = (iterT (body36 L) (lp36 n) q (st36 n m (wr .i64 (iadd (Int.ofNat i) 1)) f g fun _ => .und)).sem :=
        iter_step (same_next L n m i f g j) (by rw [ofNat_in hi, ofNat_in hi', ofNat_lt hi, hc]; rfl)
      rw [h3, succ_wr hi hn]
      exact same_run L n m f g hm hn d (i + 1) (fun _ => .und) q (by omega) (by omega)
    | false =>
      have h3 : (iterT (body36 L) (lp36 n) (q + 1) (st36 n m (Int.ofNat i) f g j)).sem = some (.rt, en36 n m f g) := iter_end (same_out L n m i f g j) (by rw [ofNat_in hi, ofNat_in hi', ofNat_lt hi, hc]; rfl) (fun h => by cases h)
      exact h3

def sameB (n : Nat) (f : Nat → E6) (m : Nat) (g : Nat → E6) : Bool := sel (ieq (Int.ofNat n) (Int.ofNat m)) (eqFrom f g n 0) false

def jk36 (n m : Nat) (f g : Nat → E6) : Nat → V
  | 6 => edgesV n f
  | 7 => iV (Int.ofNat n)
  | 8 => edgesV m g
  | 9 => iV (Int.ofNat m)
  | 10 => bV (bnot (ieq (Int.ofNat n) (Int.ofNat m)))
  | _ => undefV

theorem same_cut (n m : Nat) (f g : Nat → E6) (L : Nat → (St → T (Ex × St)) → St → T (Ex × St)) : finF (evalF tab ⟨callT t0, L, Gl⟩ Try.f14 [edgesV n f, edgesV m g] []) =
    finF (evalF tab ⟨callT t0, fun _ _ _ => L 0 (body36 L) (st36 n m 0 f g (jk36 n m f g)), Gl⟩ Try.f14 [edgesV n f, edgesV m g] []) := by kernel_rfl
theorem same_ne (n m : Nat) (f g : Nat → E6) (L : Nat → (St → T (Ex × St)) → St → T (Ex × St)) : (finF (evalF tab ⟨callT t0, L, Gl⟩ Try.f14 [edgesV n f, edgesV m g] [])).path [true] =
    some ([bnot (ieq (Int.ofNat n) (Int.ofNat m))], (bV false, [])) := by kernel_rfl
theorem same_eq (n m : Nat) (f g : Nat → E6) : (finF (evalF tab ⟨callT t0, fun _ _ _ => .leaf (.ex 0, en36 n m f g), Gl⟩ Try.f14 [edgesV n f, edgesV m g] [])).path [false] =
    some ([bnot (ieq (Int.ofNat n) (Int.ofNat m))], (bV true, [])) := by kernel_rfl
theorem same_rt (n m : Nat) (f g : Nat → E6) : (finF (evalF tab ⟨callT t0, fun _ _ _ => .leaf (.rt, en36 n m f g), Gl⟩ Try.f14 [edgesV n f, edgesV m g] [])).path [false] =
    some ([bnot (ieq (Int.ofNat n) (Int.ofNat m))], (bV false, [])) := by kernel_rfl

theorem same36 (n m : Nat) (f g : Nat → E6) (hn : n ≤ 4611686018427387904) : (finF (evalF tab (cx9 [(0, lp36 n)]) Try.f14 [edgesV n f, edgesV m g] [])).sem = some (bV (sameB n f m g), []) := by
  unfold sameB
  cases hc : ieq (Int.ofNat n) (Int.ofNat m) with
  | false => exact sem_of_path (same_ne n m f g _) (by rw [hc]; rfl)
  | true =>
    have h0 : Int.ofNat n = Int.ofNat m := by simpa only [ieq, beq_iff_eq] using hc
    have hm : n = m := Int.ofNat.inj h0
    have h1 := same_run (loopsBy [(0, lp36 n)]) n m f g hm hn n 0 (jk36 n m f g) (n + 1) (by omega) (by omega)
    have h2 := same_cut n m f g (loopsBy [(0, lp36 n)])
    have h3 : (finF (evalF tab (cx9 [(0, lp36 n)]) Try.f14 [edgesV n f, edgesV m g] [])).sem = (finF (evalF tab ⟨callT t0, fun _ _ _ => .leaf (match eqFrom f g n 0 with | true => .ex 0 | false => .rt, en36 n m f g), Gl⟩ Try.f14 [edgesV n f, edgesV m g] [])).sem := by
      refine (congrArg T.sem h2).trans (told fun id _ _ _ _ => ?_)
      exact h1
    rw [h3]
    cases eqFrom f g n 0 with
    | true => exact sem_of_path (same_eq n m f g) (by rw [hc]; rfl)
    | false => exact sem_of_path (same_rt n m f g) (by rw [hc]; rfl)

def sameT : List V → T (V × List Blk) := apL2 fun n f m g => .br (smallN n) (out (bV (sameB n f m g))) .fail

theorem p36 : PureC Try.prog Gl 14 sameT := by
  refine pureC_intro tabOK mixed Try.func14 (by kernel_rfl) (by kernel_rfl) fun vs v h' h => ?_
  obtain ⟨n, f, m, g, ha, h⟩ := apL2_some h
  obtain ⟨hn, h⟩ := sem_br_fail h
  have := sem_leaf h
  simp only [Prod.mk.injEq] at this
  obtain ⟨rfl, rfl⟩ := this
  have hx := cx_ok t0_ok [(0, lp36 n)]
  exact ⟨_, cx9 [(0, lp36 n)], _, ha, rfl, hx.1, hx.2, same36 n m f g (of_decide_eq_true hn), RowsLE.refl _⟩

/-- The elements of a list that grows. -/
def cpG (f : Nat → E6) : Nat → Nat → V
  | 0 => fun _ => .und
  | i + 1 => pushGet i (cpG f i) (eV (f i))

theorem cpG_eq (f : Nat → E6) : ∀ n j, j < n → cpG f n j = eV (f j)
  | 0, j, h => by omega
  | n + 1, j, h => by
    rw [show cpG f (n + 1) j = pushGet n (cpG f n) (eV (f n)) j from rfl, pushGet_eq]
    show (bif Nat.beq j n then eV (f n) else cpG f n j) = _
    cases hb : Nat.beq j n with
    | true =>
      rw [Nat.eq_of_beq_eq_true hb]
      rfl
    | false =>
      have := Nat.ne_of_beq_eq_false hb
      exact cpG_eq f n j (by omega)

def fitN (n : Nat) : Bool := decide (n * 40 ≤ 140737488355328)

theorem fit_ap {i n : Nat} (h : i < n) (hn : fitN n = true) : apOK i 1 40 = true := by
  have hn : n * 40 ≤ 140737488355328 := of_decide_eq_true hn
  exact decide_eq_true (by omega)

def lp37 (n : Nat) : Lp := ⟨[true, false, true, true, true, false, false, false, false, false, false, false, false, false, false, false, false, false, false], 2, [true, false, true, true, false, false, false, false, false, false, false, false, false, false, false, false, false, false, false], 2, n + 1⟩
def st37 (n : Nat) (c : Int) (k : Nat) (x : Nat → V) (f : Nat → E6) (j : Nat → V) : St := ⟨[.sl 6 n fun i => eV (f i), j 1, .ref 0, .ref 1, iV c, j 5, j 6, j 7, j 8, j 9, j 10, j 11, j 12, j 13, j 14, j 15, j 16, j 17, j 18], [.row 36 6 0 fun _ => .und, .row 36 6 k x]⟩
def en37 (n : Nat) (k : Nat) (x : Nat → V) (f : Nat → E6) : St := ⟨[.sl 6 n fun i => eV (f i), .und, .ref 0, .ref 1, .und, .und, .und, .und, .und, .und, .und, .und, .und, .und, .und, .und, .und, .und, .und], [.row 36 6 0 fun _ => .und, .row 36 6 k x]⟩
noncomputable def body37 (L : Nat → (St → T (Ex × St)) → St → T (Ex × St)) : St → T (Ex × St) := fun st => evalC tab ⟨callT t0, L, Gl⟩ (loopBody Try.f11 0) 0 st

section
variable (L : Nat → (St → T (Ex × St)) → St → T (Ex × St))

theorem copy_end (n i k : Nat) (x : Nat → V) (f : Nat → E6) (j : Nat → V) : ((body37 L (st37 n (Int.ofNat i) k x f j)).bind fun r => T.leaf (r.1, cutS [true, false, true, true, false, false, false, false, false, false, false, false, false, false, false, false, false, false, false] 2 r.2)).path [false] =
    some ([ilt (Int.ofNat i) (Int.ofNat n)], (.ex 0, en37 n k x f)) := by kernel_rfl
theorem copy_next (n i k : Nat) (x : Nat → V) (f : Nat → E6) (j : Nat → V) : ((body37 L (st37 n (Int.ofNat i) k x f j)).bind fun r => T.leaf (r.1, cutS [true, false, true, true, true, false, false, false, false, false, false, false, false, false, false, false, false, false, false] 2 r.2)).path [true, true, true] =
    some ([ilt (Int.ofNat i) (Int.ofNat n), band (ile 0 (Int.ofNat i)) (ilt (Int.ofNat i) (Int.ofNat n)), apOK k 1 40], (.nm, st37 n (wr .i64 (iadd (Int.ofNat i) 1)) (k + 1) (pushGet k x (eV (f i))) f fun _ => .und)) := by kernel_rfl

theorem copy_run (n : Nat) (f : Nat → E6) (hn : fitN n = true) : ∀ (d i : Nat) (j : Nat → V) (q : Nat), n = i + d → d < q →
    (iterT (body37 L) (lp37 n) q (st37 n (Int.ofNat i) i (cpG f i) f j)).sem = some (.ex 0, en37 n n (cpG f n) f)
  | 0, i, j, q + 1, h1, _ => by
    have h3 : (iterT (body37 L) (lp37 n) (q + 1) (st37 n (Int.ofNat i) i (cpG f i) f j)).sem = some (.ex 0, en37 n i (cpG f i) f) := iter_end (copy_end L n i i (cpG f i) f j) (by rw [ofNat_ge (by omega)]) (fun h => by cases h)
    rw [h3, show i = n by omega]
  | d + 1, i, j, q + 1, h1, h2 => by
    have hi : i < n := by omega
    have hb : n ≤ 4611686018427387904 := by
      have hn : n * 40 ≤ 140737488355328 := of_decide_eq_true hn
      omega
    have h3 : (iterT (body37 L) (lp37 n) (q + 1) (st37 n (Int.ofNat i) i (cpG f i) f j)).sem = (iterT (body37 L) (lp37 n) q (st37 n (wr .i64 (iadd (Int.ofNat i) 1)) (i + 1) (cpG f (i + 1)) f fun _ => .und)).sem :=
      iter_step (copy_next L n i i (cpG f i) f j) (by rw [ofNat_in hi, ofNat_lt hi, fit_ap hi hn])
    rw [h3, succ_wr hi hb]
    exact copy_run n f hn d (i + 1) (fun _ => .und) q (by omega) (by omega)

end

def jk37 : Nat → V := fun _ => undefV

theorem copy_cut (n : Nat) (f : Nat → E6) (L : Nat → (St → T (Ex × St)) → St → T (Ex × St)) : finF (evalF tab ⟨callT t0, L, Gl⟩ Try.f11 [edgesV n f] []) =
    finF (evalF tab ⟨callT t0, fun _ _ _ => L 0 (body37 L) (st37 n 0 0 (cpG f 0) f jk37), Gl⟩ Try.f11 [edgesV n f] []) := by kernel_rfl
theorem copy_fin (n : Nat) (f : Nat → E6) (x : Nat → V) : (finF (evalF tab ⟨callT t0, fun _ _ _ => .leaf (.ex 0, en37 n n x f), Gl⟩ Try.f11 [edgesV n f] [])).sem =
    some (.ref 0, [.row 36 6 n x]) := by kernel_rfl

theorem copy37 (n : Nat) (f : Nat → E6) (hn : fitN n = true) : (finF (evalF tab (cx9 [(0, lp37 n)]) Try.f11 [edgesV n f] [])).sem = some (.ref 0, [.row 36 6 n (cpG f n)]) := by
  have h1 := copy_run (loopsBy [(0, lp37 n)]) n f hn n 0 jk37 (n + 1) (by omega) (by omega)
  have h2 := copy_cut n f (loopsBy [(0, lp37 n)])
  have h3 : (finF (evalF tab (cx9 [(0, lp37 n)]) Try.f11 [edgesV n f] [])).sem = (finF (evalF tab ⟨callT t0, fun _ _ _ => .leaf (.ex 0, en37 n n (cpG f n) f), Gl⟩ Try.f11 [edgesV n f] [])).sem := by
    refine (congrArg T.sem h2).trans (told fun id _ _ _ _ => ?_)
    exact h1
  rw [h3]
  exact copy_fin n f _

def copyT : List V → T (V × List Blk) := apL1 fun n f => .br (fitN n) (.leaf (.ref 0, [.row 36 6 n fun i => eV (f i)])) .fail

theorem p37 : PureC Try.prog Gl 11 copyT := by
  refine pureC_intro tabOK mixed Try.func11 (by kernel_rfl) (by kernel_rfl) fun vs v h' h => ?_
  obtain ⟨n, f, ha, h⟩ := apL1_some h
  obtain ⟨hn, h⟩ := sem_br_fail h
  have := sem_leaf h
  simp only [Prod.mk.injEq] at this
  obtain ⟨rfl, rfl⟩ := this
  have hx := cx_ok t0_ok [(0, lp37 n)]
  exact ⟨_, cx9 [(0, lp37 n)], _, ha, rfl, hx.1, hx.2, copy37 n f hn, RowsLE.one fun j hj => (cpG_eq f n j hj).symm⟩


end Go.Proofs.Ytdmjcpindopjdaa.Co
