/-
  Layer 3: the numbers of a list of edges. No conditions.
-/
import Derived.Test.YtcaljjnadbpacaaDoorEdN
namespace Go.Proofs.YtcaljjnadbpacaaDoor.Ed
open Go.Sy

theorem allN_true {n : Nat} : allN n (fun _ => Bool.true) = true := allN_iff.2 fun _ _ => rfl

/-- A row that grew by the elements of a list. -/
def pushN (g : Nat → V) : Nat → Nat → V
  | 0 => fun _ => .und
  | i + 1 => pushGet i (pushN g i) (g i)

theorem pushN_eq (g : Nat → V) : ∀ n j, j < n → pushN g n j = g j
  | 0, j, h => by omega
  | n + 1, j, h => by
    rw [show pushN g (n + 1) j = pushGet n (pushN g n) (g n) j from rfl, pushGet_eq]
    show (bif Nat.beq j n then g n else pushN g n j) = _
    cases hb : Nat.beq j n with
    | true =>
      rw [Nat.eq_of_beq_eq_true hb]
      rfl
    | false =>
      have := Nat.ne_of_beq_eq_false hb
      exact pushN_eq g n j (by omega)

theorem ap_fit {i n b c : Nat} (h : i < n) (hb : b ≤ c) (hn : n * c ≤ 140737488355328) : apOK i 1 b = true := by
  refine decide_eq_true ?_
  have h1 : (i + 1) * b ≤ n * b := Nat.mul_le_mul_right b (by omega)
  have h2 : n * b ≤ n * c := Nat.mul_le_mul_left n hb
  omega

theorem fit_small {n : Nat} (hn : fitN n = true) : n ≤ 4611686018427387904 := by
  have hn : n * 40 ≤ 140737488355328 := of_decide_eq_true hn
  omega

theorem ofNat_lt_no {i n : Nat} (h : n ≤ i) : ilt (Int.ofNat i) (Int.ofNat n) = false := ofNat_ge h

def lp81 (n : Nat) (f : Nat → E6) : Lp := ⟨[true, false, true, true, true, false, false, false, false, true, true, true, false, false, false, false, false, false, false, false, false, false, false, false, false, false, false, false, false], 2, [false, false, true, true, true, false, false, false, false, false, false, false, false, false, false, false, false, false, false, false, false, false, false, false, false, false, false, false, false], 4, n + 1⟩
def st81 (n : Nat) (f : Nat → E6) (i k : Nat) (x : Nat → V) (j : Nat → V) : St := ⟨[.sl 6 n fun i => eV (f i), j 1, .ref 0, iV 0, .ref 1, j 5, j 6, j 7, j 8, .sl 6 n fun i => eV (f i), iV (Int.ofNat n), iV (Int.ofNat i), j 12, j 13, j 14, j 15, j 16, j 17, j 18, j 19, j 20, j 21, j 22, j 23, j 24, j 25, j 26, j 27, j 28], [.row 3 1 0 fun _ => .und, .row 3 1 k x]⟩
def en81a (n : Nat) (f : Nat → E6) (i k : Nat) (x : Nat → V) : Ex × St := (.ex 0, ⟨[.und, .und, .ref 0, iV 0, .ref 1, .und, .und, .und, .und, .und, .und, .und, .und, .und, .und, .und, .und, .und, .und, .und, .und, .und, .und, .und, .und, .und, .und, .und, .und], [.row 3 1 0 fun _ => .und, .row 3 1 k x]⟩)
def en81b (n : Nat) (f : Nat → E6) (i k : Nat) (x : Nat → V) : Ex × St := (.rt, ⟨[.und, .und, .ref 3, iV (codeF (f i)), .ref 1, .und, .und, .und, .und, .und, .und, .und, .und, .und, .und, .und, .und, .und, .und, .und, .und, .und, .und, .und, .und, .und, .und, .und, .und], [.row 3 1 0 fun _ => .und, .row 3 1 k x, .cells [(iV ((f i)).kind), (bV ((f i)).ext), (bV ((f i)).same), (iV ((f i)).src), (iV ((f i)).dst), (iV ((f i)).fence)], .row 3 1 0 fun _ => .und]⟩)
noncomputable def body81 (L : Nat → (St → T (Ex × St)) → St → T (Ex × St)) : St → T (Ex × St) := fun st => evalC tab ⟨callT tb8, L, Gl⟩ (loopBody Tryd.f81 0) 0 st
theorem round81 (L : Nat → (St → T (Ex × St)) → St → T (Ex × St)) (n : Nat) (f : Nat → E6) (i k : Nat) (x : Nat → V) (j : Nat → V) : roundT (body81 L) (lp81 n f) (st81 n f i k x j)
 = (sel (ilt (Int.ofNat i) (Int.ofNat n)) (sel (band (ile 0 (Int.ofNat i)) (ilt (Int.ofNat i) (Int.ofNat n))) (sel (bnot (ieq (codeF (f i)) 0)) (some (.rt, ⟨[.und, .und, (.ref 3), (iV (codeF (f i))), (.ref 1), .und, .und, .und, .und, .und, .und, .und, .und, .und, .und, .und, .und, .und, .und, .und, .und, .und, .und, .und, .und, .und, .und, .und, .und], [(.row 3 1 0 (fun _ => .und)), (.row 3 1 k x), (.cells [(iV ((f i)).kind), (bV ((f i)).ext), (bV ((f i)).same), (iV ((f i)).src), (iV ((f i)).dst), (iV ((f i)).fence)]), (.row 3 1 0 (fun _ => .und))]⟩)) (sel (apOK k 1 8) (some (.nm, ⟨[(.sl 6 n (fun i => (eV (f i)))), .und, (.ref 0), (iV 0), (.ref 1), .und, .und, .und, .und, (.sl 6 n (fun i => (eV (f i)))), (iV (Int.ofNat n)), (iV (wr IntKind.i64 (iadd (Int.ofNat i) 1))), .und, .und, .und, .und, .und, .und, .und, .und, .und, .und, .und, .und, .und, .und, .und, .und, .und], [(.row 3 1 0 (fun _ => .und)), (.row 3 1 (nadd k 1) (pushGet k x (iV (codeN (f i)))))]⟩)) none)) none) (some ((.ex 0), ⟨[.und, .und, (.ref 0), (iV 0), (.ref 1), .und, .und, .und, .und, .und, .und, .und, .und, .und, .und, .und, .und, .und, .und, .und, .und, .und, .und, .und, .und, .und, .und, .und, .und], [(.row 3 1 0 (fun _ => .und)), (.row 3 1 k x)]⟩))) := by kernel_rfl
def jk81 (n : Nat) (f : Nat → E6)  : Nat → V
  | _ => undefV

theorem way81a_p (L : Nat → (St → T (Ex × St)) → St → T (Ex × St)) (p0 : (St → T (Ex × St)) → St → Bool) (n : Nat) (f : Nat → E6) (i k : Nat) (x : Nat → V) : (finF (evalF tab ⟨callT tb8, (onP 0 p0 (en81a n f i k x) L), Gl⟩ Tryd.f81 [edgesV n f] [])).path [true] = some ([(p0 (body81 (onP 0 p0 (en81a n f i k x) L)) (st81 n f 0 0 (fun _ => .und) (jk81 n f )))], ((.tup [(.ref 0), (iV 0)]), [(.row 3 1 k x)])) := by kernel_rfl
theorem way81a (L : Nat → (St → T (Ex × St)) → St → T (Ex × St)) (p0 : (St → T (Ex × St)) → St → Bool) (n : Nat) (f : Nat → E6) (i k : Nat) (x : Nat → V)  (hp0 : p0 (body81 (onP 0 p0 (en81a n f i k x) L)) (st81 n f 0 0 (fun _ => .und) (jk81 n f )) = true) : (finF (evalF tab ⟨callT tb8, (onP 0 p0 (en81a n f i k x) L), Gl⟩ Tryd.f81 [edgesV n f] [])).sem = some ((.tup [(.ref 0), (iV 0)]), [(.row 3 1 k x)]) :=
  sem_of_path (way81a_p L p0 n f i k x) (by simp only [hp0] <;> rfl)

theorem way81b_p (L : Nat → (St → T (Ex × St)) → St → T (Ex × St)) (p0 : (St → T (Ex × St)) → St → Bool) (n : Nat) (f : Nat → E6) (i k : Nat) (x : Nat → V) : (finF (evalF tab ⟨callT tb8, (onP 0 p0 (en81b n f i k x) L), Gl⟩ Tryd.f81 [edgesV n f] [])).path [true] = some ([(p0 (body81 (onP 0 p0 (en81b n f i k x) L)) (st81 n f 0 0 (fun _ => .und) (jk81 n f )))], ((.tup [(.ref 0), (iV (codeF (f i)))]), [(.row 3 1 0 (fun _ => .und))])) := by kernel_rfl
theorem way81b (L : Nat → (St → T (Ex × St)) → St → T (Ex × St)) (p0 : (St → T (Ex × St)) → St → Bool) (n : Nat) (f : Nat → E6) (i k : Nat) (x : Nat → V)  (hp0 : p0 (body81 (onP 0 p0 (en81b n f i k x) L)) (st81 n f 0 0 (fun _ => .und) (jk81 n f )) = true) : (finF (evalF tab ⟨callT tb8, (onP 0 p0 (en81b n f i k x) L), Gl⟩ Tryd.f81 [edgesV n f] [])).sem = some ((.tup [(.ref 0), (iV (codeF (f i)))]), [(.row 3 1 0 (fun _ => .und))]) :=
  sem_of_path (way81b_p L p0 n f i k x) (by simp only [hp0] <;> rfl)

def cdV (f : Nat → E6) : Nat → V := fun i => iV (codeN (f i))

theorem run81a (L : Nat → (St → T (Ex × St)) → St → T (Ex × St)) (n : Nat) (f : Nat → E6) (hn : fitN n = true) (ho : ∀ t, t < n → codeF (f t) = 0) : ∀ (d i : Nat) (j : Nat → V) (q : Nat), n = i + d → d < q →
    (iterT (body81 L) (lp81 n f) q (st81 n f i i (pushN (cdV f) i) j)).sem = some (en81a n f 0 n (pushN (cdV f) n))
  | 0, i, j, q + 1, h1, _ => by
    have hi : i = n := by omega
    subst hi
    rw [iter_round (round81 L i f i i _ j), ofNat_ge (Nat.le_refl i)]
    rfl
  | d + 1, i, j, q + 1, h1, h2 => by
    have hi : i < n := by omega
    rw [iter_round (round81 L n f i i _ j), ofNat_in hi, ofNat_lt hi, ap_fit hi (by decide) (of_decide_eq_true hn), succ_wr hi (fit_small hn), ho i hi]
    exact run81a L n f hn ho d (i + 1) (fun _ => .und) q (by omega) (by omega)

theorem run81b (L : Nat → (St → T (Ex × St)) → St → T (Ex × St)) (n : Nat) (f : Nat → E6) (hn : fitN n = true) (e : Nat) (he : e < n) (hb : codeF (f e) = 30) (ho : ∀ t, t < e → codeF (f t) = 0) : ∀ (d i : Nat) (j : Nat → V) (q : Nat), e = i + d → d < q →
    (iterT (body81 L) (lp81 n f) q (st81 n f i i (pushN (cdV f) i) j)).sem = some (en81b n f e e (pushN (cdV f) e))
  | 0, i, j, q + 1, h1, _ => by
    have hi : i = e := by omega
    subst hi
    rw [iter_round (round81 L n f i i _ j), ofNat_in he, ofNat_lt he, hb]
    show some _ = some (en81b n f i i _)
    unfold en81b
    rw [hb]
  | d + 1, i, j, q + 1, h1, h2 => by
    have hi : i < n := by omega
    rw [iter_round (round81 L n f i i _ j), ofNat_in hi, ofNat_lt hi, ap_fit hi (by decide) (of_decide_eq_true hn), succ_wr hi (fit_small hn), ho i (by omega)]
    exact run81b L n f hn e he hb ho d (i + 1) (fun _ => .und) q (by omega) (by omega)

/-- The first that fails. -/
theorem firstNot (p : Nat → Bool) : ∀ n, allN n p = false → ∃ e, e < n ∧ p e = false ∧ ∀ t, t < e → p t = true
  | 0, h => by cases h
  | n + 1, h => by
    cases hn : allN n p with
    | false =>
      obtain ⟨e, h1, h2, h3⟩ := firstNot p n hn
      exact ⟨e, by omega, h2, h3⟩
    | true =>
      refine ⟨n, by omega, ?_, fun t ht => allN_iff.1 hn t ht⟩
      cases hp : p n with
      | false => rfl
      | true =>
        have : allN (n + 1) p = true := allN_iff.2 fun i hi => by
          by_cases hi' : i = n
          · rw [hi', hp]
          · exact allN_iff.1 hn i (by omega)
        rw [this] at h; cases h

theorem codeF_30 {e : E6} (h : codeF e ≠ 0) : codeF e = 30 := by
  rcases codeF_cases e with ⟨_, _, h1, _⟩ | ⟨h1, _⟩
  · exact absurd h1 h
  · exact h1

theorem may_no {n : Nat} {f : Nat → E6} (h : mayN n f = false) : ∃ e, e < n ∧ codeF (f e) = 30 ∧ ∀ t, t < e → codeF (f t) = 0 := by
  obtain ⟨e, h1, h2, h3⟩ := firstNot _ n h
  refine ⟨e, h1, codeF_30 fun h0 => ?_, fun t ht => by simpa [ieq] using h3 t ht⟩
  rw [h0] at h2
  cases h2

def codesT : List V → T (V × List Blk) := apL1 fun n f => .br (fitN n) (.br (mayN n f) (.leaf (.tup [.ref 0, iV 0], [.row 3 1 n fun i => iV (codeN (f i))])) (.leaf (.tup [.ref 0, iV 30], [.row 3 1 0 fun _ => .und]))) .fail

theorem p81 : PureC Tryd.prog Gl 81 codesT := by
  refine pureC_intro tabOK mixed Tryd.func81 (by kernel_rfl) (by kernel_rfl) fun vs v h' h => ?_
  obtain ⟨n, f, ha, h⟩ := apL1_some h
  obtain ⟨hn, h⟩ := sem_br_fail h
  have hx := cx_ok tb8_ok [(0, lp81 n f)]
  cases hm : mayN n f with
  | true =>
    rw [hm] at h
    have := sem_leaf h
    simp only [Prod.mk.injEq] at this
    obtain ⟨rfl, rfl⟩ := this
    exact ⟨_, cx9 [(0, lp81 n f)], _, ha, rfl, hx.1, hx.2, told_le (onP_le (loopsBy_le _) (loopsBy_le _)) _ (way81a _ _ n f 0 n _ (isP_true (run81a _ n f hn (mayN_iff.1 hm) n 0 (jk81 n f) (n + 1) (by omega) (by omega)))),
      RowsLE.one fun j hj => (pushN_eq (cdV f) n j hj).symm⟩
  | false =>
    rw [hm] at h
    have := sem_leaf h
    simp only [Prod.mk.injEq] at this
    obtain ⟨rfl, rfl⟩ := this
    obtain ⟨e, h1, h2, h3⟩ := may_no hm
    have hw := told_le (onP_le (loopsBy_le _) (loopsBy_le _)) _ (way81b (loopsBy [(0, lp81 n f)]) _ n f e e _ (isP_true (run81b _ n f hn e h1 h2 h3 e 0 (jk81 n f) (n + 1) (by omega) (by omega))))
    rw [h2] at hw
    exact ⟨_, cx9 [(0, lp81 n f)], _, ha, rfl, hx.1, hx.2, hw, RowsLE.refl _⟩

end Go.Proofs.YtcaljjnadbpacaaDoor.Ed
