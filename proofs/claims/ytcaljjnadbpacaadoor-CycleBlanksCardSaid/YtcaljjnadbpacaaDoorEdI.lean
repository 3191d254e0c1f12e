/-
  Layer 3: a list of edges of one's own. No conditions.
-/
import Derived.Test.YtcaljjnadbpacaaDoorEdH
namespace Go.Proofs.YtcaljjnadbpacaaDoor.Ed
open Go.Sy

/-- The elements of a list that grows. -/
def cpG (f : Nat → E6) : Nat → Nat → V
  | 0 => fun _ => .und
  | i + 1 => pushGet i (cpG f i) (eV (f i))

theorem cpG_eq (f : Nat → E6) : ∀ n j, j < n → cpG f n j = eV (f j)
  | 0, j, h => by omega
  | n + 1, j, h => by
    rw [show cpG f (n + 1) j = pushGet n (cpG f n) (eV (f n)) j from rfl, pushGet_eq]
    show (bif Nat.beq j n then eV (f n) else cpG f n j) = _
    cases hb : Nat.beq j n with
    | true =>
      rw [Nat.eq_of_beq_eq_true hb]
      rfl
    | false =>
      have := Nat.ne_of_beq_eq_false hb
      exact cpG_eq f n j (by omega)

def fitN (n : Nat) : Bool := decide (n * 40 ≤ 140737488355328)

theorem fit_ap {i n : Nat} (h : i < n) (hn : fitN n = true) : apOK i 1 40 = true := by
  have hn : n * 40 ≤ 140737488355328 := of_decide_eq_true hn
  exact decide_eq_true (by omega)

def lp37 (n : Nat) : Lp := ⟨[true, false, true, true, true, false, false, false, false, false, false, false, false, false, false, false, false, false, false], 2, [true, false, true, true, false, false, false, false, false, false, false, false, false, false, false, false, false, false, false], 2, n + 1⟩
def st37 (n : Nat) (c : Int) (k : Nat) (x : Nat → V) (f : Nat → E6) (j : Nat → V) : St := ⟨[.sl 6 n fun i => eV (f i), j 1, .ref 0, .ref 1, iV c, j 5, j 6, j 7, j 8, j 9, j 10, j 11, j 12, j 13, j 14, j 15, j 16, j 17, j 18], [.row 23 6 0 fun _ => .und, .row 23 6 k x]⟩
def en37 (n : Nat) (k : Nat) (x : Nat → V) (f : Nat → E6) : St := ⟨[.sl 6 n fun i => eV (f i), .und, .ref 0, .ref 1, .und, .und, .und, .und, .und, .und, .und, .und, .und, .und, .und, .und, .und, .und, .und], [.row 23 6 0 fun _ => .und, .row 23 6 k x]⟩
noncomputable def body37 (L : Nat → (St → T (Ex × St)) → St → T (Ex × St)) : St → T (Ex × St) := fun st => evalC tab ⟨callT tb8, L, Gl⟩ (loopBody Tryd.f37 0) 0 st

section
variable (L : Nat → (St → T (Ex × St)) → St → T (Ex × St))

theorem copy_end (n i k : Nat) (x : Nat → V) (f : Nat → E6) (j : Nat → V) : ((body37 L (st37 n (Int.ofNat i) k x f j)).bind fun r => T.leaf (r.1, cutS [true, false, true, true, false, false, false, false, false, false, false, false, false, false, false, false, false, false, false] 2 r.2)).path [false] =
    some ([ilt (Int.ofNat i) (Int.ofNat n)], (.ex 0, en37 n k x f)) := by kernel_rfl
theorem copy_next (n i k : Nat) (x : Nat → V) (f : Nat → E6) (j : Nat → V) : ((body37 L (st37 n (Int.ofNat i) k x f j)).bind fun r => T.leaf (r.1, cutS [true, false, true, true, true, false, false, false, false, false, false, false, false, false, false, false, false, false, false] 2 r.2)).path [true, true, true] =
    some ([ilt (Int.ofNat i) (Int.ofNat n), band (ile 0 (Int.ofNat i)) (ilt (Int.ofNat i) (Int.ofNat n)), apOK k 1 40], (.nm, st37 n (wr .i64 (iadd (Int.ofNat i) 1)) (k + 1) (pushGet k x (eV (f i))) f fun _ => .und)) := by kernel_rfl

theorem copy_run (n : Nat) (f : Nat → E6) (hn : fitN n = true) : ∀ (d i : Nat) (j : Nat → V) (q : Nat), n = i + d → d < q →
    (iterT (body37 L) (lp37 n) q (st37 n (Int.ofNat i) i (cpG f i) f j)).sem = some (.ex 0, en37 n n (cpG f n) f)
  | 0, i, j, q + 1, h1, _ => by
    have h3 : (iterT (body37 L) (lp37 n) (q + 1) (st37 n (Int.ofNat i) i (cpG f i) f j)).sem = some (.ex 0, en37 n i (cpG f i) f) := iter_end (copy_end L n i i (cpG f i) f j) (by rw [ofNat_ge (by omega)]) (fun h => by cases h)
    rw [h3, show i = n by omega]
  | d + 1, i, j, q + 1, h1, h2 => by
    have hi : i < n := by omega
    have hb : n ≤ 4611686018427387904 := by
      have hn : n * 40 ≤ 140737488355328 := of_decide_eq_true hn
      omega
    have h3 : (iterT (body37 L) (lp37 n) (q + 1) (st37 n (Int.ofNat i) i (cpG f i) f j)).sem = (iterT (body37 L) (lp37 n) q (st37 n (wr .i64 (iadd (Int.ofNat i) 1)) (i + 1) (cpG f (i + 1)) f fun _ => .und)).sem :=
      iter_step (copy_next L n i i (cpG f i) f j) (by rw [ofNat_in hi, ofNat_lt hi, fit_ap hi hn])
    rw [h3, succ_wr hi hb]
    exact copy_run n f hn d (i + 1) (fun _ => .und) q (by omega) (by omega)

end

def jk37 : Nat → V := fun _ => undefV

theorem copy_cut (n : Nat) (f : Nat → E6) (L : Nat → (St → T (Ex × St)) → St → T (Ex × St)) : finF (evalF tab ⟨callT tb8, L, Gl⟩ Tryd.f37 [edgesV n f] []) =
    finF (evalF tab ⟨callT tb8, fun _ _ _ => L 0 (body37 L) (st37 n 0 0 (cpG f 0) f jk37), Gl⟩ Tryd.f37 [edgesV n f] []) := by kernel_rfl
theorem copy_fin (n : Nat) (f : Nat → E6) (x : Nat → V) : (finF (evalF tab ⟨callT tb8, fun _ _ _ => .leaf (.ex 0, en37 n n x f), Gl⟩ Tryd.f37 [edgesV n f] [])).sem =
    some (.ref 0, [.row 23 6 n x]) := by kernel_rfl

theorem copy37 (n : Nat) (f : Nat → E6) (hn : fitN n = true) : (finF (evalF tab (cx9 [(0, lp37 n)]) Tryd.f37 [edgesV n f] [])).sem = some (.ref 0, [.row 23 6 n (cpG f n)]) := by
  have h1 := copy_run (loopsBy [(0, lp37 n)]) n f hn n 0 jk37 (n + 1) (by omega) (by omega)
  have h2 := copy_cut n f (loopsBy [(0, lp37 n)])
  have h3 : (finF (evalF tab (cx9 [(0, lp37 n)]) Tryd.f37 [edgesV n f] [])).sem = (finF (evalF tab ⟨callT tb8, fun _ _ _ => .leaf (.ex 0, en37 n n (cpG f n) f), Gl⟩ Tryd.f37 [edgesV n f] [])).sem := by
    refine (congrArg T.sem h2).trans (told fun id _ _ _ _ => ?_)
    exact h1
  rw [h3]
  exact copy_fin n f _

def copyT : List V → T (V × List Blk) := apL1 fun n f => .br (fitN n) (.leaf (.ref 0, [.row 23 6 n fun i => eV (f i)])) .fail

theorem p37 : PureC Tryd.prog Gl 37 copyT := by
  refine pureC_intro tabOK mixed Tryd.func37 (by kernel_rfl) (by kernel_rfl) fun vs v h' h => ?_
  obtain ⟨n, f, ha, h⟩ := apL1_some h
  obtain ⟨hn, h⟩ := sem_br_fail h
  have := sem_leaf h
  simp only [Prod.mk.injEq] at this
  obtain ⟨rfl, rfl⟩ := this
  have hx := cx_ok tb8_ok [(0, lp37 n)]
  exact ⟨_, cx9 [(0, lp37 n)], _, ha, rfl, hx.1, hx.2, copy37 n f hn, RowsLE.one fun j hj => (cpG_eq f n j hj).symm⟩

end Go.Proofs.YtcaljjnadbpacaaDoor.Ed
